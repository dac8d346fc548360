/-
  The law OverRises: what it computes.
-/
import Derived.Test.YtkdbedbefojieaaAwake
import Derived.Deep.RegionHeld3
namespace Go.Proofs.Ytkdbedbefojieaa
set_option linter.unusedVariables false
set_option linter.unusedSimpArgs false
open Go.RowKit
set_option maxRecDepth 100000
attribute [local go_sem] gd_true

section
variable {w : World} {F : Nat → Prop} {A : Option Addr} {n c k : Nat}
theorem Sl.cfg {l : List Config} (h : Sl tConfig w F A n c l) (hk : k < n) : ∃ b o t A' n' c', A = some ⟨b, o, none⟩ ∧ F b ∧ b < w.heap.size ∧ l[k]? = some t ∧ I64 t.epoch ∧ SlM w F A' n' c' t.members ∧
    w.cell? ⟨b, o + k * 2, none⟩ = some (.int .i64 t.epoch) ∧ w.cell? ⟨b, o + k * 2 + 1, none⟩ = some (.slice A' n' c') := by
  obtain ⟨b, o, cs, t, hA, hF, hl, ⟨A', n', c', rfl, ho, hb⟩, hc⟩ := h.at_ hk
  exact ⟨b, o, t, A', n', c', hA, hF, lt_of_cell (hc 0 _ rfl), hl, ho, hb, hc 0 _ rfl, hc 1 _ rfl⟩
theorem Sl.int_ {kd : IntKind} {l : List Int} (h : Sl (tI kd) w F A n c l) (hk : k < n) : ∃ b o x, A = some ⟨b, o, none⟩ ∧ F b ∧ b < w.heap.size ∧ l[k]? = some x ∧ (Lit.int kd x).wf = true ∧
    w.cell? ⟨b, o + k, none⟩ = some (.int kd x) := by
  obtain ⟨b, o, cs, x, hA, hF, hl, ⟨rfl, hw⟩, hc⟩ := h.at_ hk
  have h0 := hc 0 _ rfl
  simp only [tI, Nat.mul_one, Nat.add_zero] at h0
  exact ⟨b, o, x, hA, hF, lt_of_cell h0, hl, hw, h0⟩
end

theorem over_cases {b : Book} {t : Config} {node nv : Int} {r : Book × Bool × Int} (h : overS b t node nv = r) :
    (r = (zeroBook, false, 2) ∧ (mayS t && decide (0 ≤ nv)) = false) ∨ (r = (zeroBook, false, 240) ∧ (mayS t && decide (0 ≤ nv)) = true) ∨
    ∃ s wh up dr, r = (⟨t, s, wh, up⟩, dr, 0) ∧ b.cfg.epoch < t.epoch ∧ (atMS t node).2 = decide (0 < s) ∧ (0 < s → (atMS t node).1.since = s) ∧ (s ≠ b.since → decide (0 < s) = dr) ∧ (s = b.since → dr = false) ∧
      (0 < s → dr = false → wh = b.whole) ∧ (0 < up → wh = true ∧ up = nv) ∧ (dr = true → wh = (t.epoch == 1)) := by
  subst h
  unfold overS
  by_cases h1 : (!mayS t || decide (nv < 0)) = true
  · rw [if_pos h1]
    refine .inl ⟨rfl, ?_⟩
    cases hm : mayS t
    · rfl
    · rw [hm] at h1; simp at h1; simp; omega
  rw [if_neg h1]
  have hm : mayS t = true := by cases hm : mayS t <;> simp_all
  have hn : 0 ≤ nv := by rw [hm] at h1; simp at h1; omega
  by_cases h2 : t.epoch ≤ b.cfg.epoch
  · rw [if_pos h2]
    exact .inr (.inl ⟨rfl, by simp [hm, hn]⟩)
  rw [if_neg h2]
  refine .inr (.inr ?_)
  by_cases h3 : (atMS t node).2 = false
  · rw [if_pos h3]
    exact ⟨0, false, 0, false, rfl, by omega, by simp [h3], fun h => absurd h (by decide), fun _ => by simp, fun _ => rfl, fun h => absurd h (by decide), fun h => absurd h (by decide), fun h => by simp at h⟩
  rw [if_neg h3]
  have h4 : (atMS t node).2 = true := by simpa using h3
  have h5 : 1 ≤ (atMS t node).1.since := by
    by_cases hex : ∃ (j : Nat) (m : Member), t.members[j]? = some m ∧ m.node = node
    · obtain ⟨j, m, hj, hmn⟩ := hex
      rw [atMS_some hm hj hmn]
      exact (((mayS_iff t).1 hm).2.2.2.2 j m hj).2.2.2.1
    · rw [atMS_none fun j m hj he => hex ⟨j, m, hj, he⟩] at h4; simp at h4
  have h6 : decide (0 < (atMS t node).1.since) = true := by simp; omega
  by_cases h7 : (atMS t node).1.since = b.since
  · rw [if_neg (by simpa using h7)]
    refine ⟨_, _, _, _, rfl, by omega, by rw [h4, h6], fun _ => rfl, fun h => absurd h7 h, fun _ => rfl, fun _ _ => rfl, fun h => ?_, fun h => by simp at h⟩
    split at h
    · rename_i hw; exact ⟨hw, by rw [if_pos hw]⟩
    · simp at h
  · rw [if_pos h7]
    exact ⟨_, _, _, _, rfl, by omega, by rw [h4, h6], fun _ => rfl, fun _ => h6, fun h => absurd h h7, fun _ h => by simp at h, fun h => absurd h (by decide), fun _ => rfl⟩

theorem bad1 {te be s x bs : Int} {dr : Bool} (f1 : be < te) (f3 : 0 < s → x = s) (f4 : s ≠ bs → decide (0 < s) = dr) (f5 : s = bs → dr = false)
    (h : ((te ≤ be ∨ 0 < s ∧ (x != s) = true) ∨ (s != bs) = true ∧ (!decide (0 < s) == dr) = true) ∨ (s == bs) = true ∧ dr = true) : False := by
  rcases h with ((h | ⟨h1, h2⟩) | ⟨h1, h2⟩) | ⟨h1, h2⟩
  · omega
  · rw [f3 h1] at h2; simp at h2
  · have h3 := f4 (by simpa using h1)
    rw [h3] at h2; cases dr <;> simp at h2
  · have h3 := f5 (by simpa using h1)
    rw [h2] at h3; simp at h3

theorem bad2 {s up nv e : Int} {wh dr bw : Bool} (f6 : 0 < s → dr = false → wh = bw) (f7 : 0 < up → wh = true ∧ up = nv) (f8 : dr = true → wh = (e == 1))
    (h : ((0 < s ∧ (!dr) = true) ∧ (!wh == bw) = true ∨ 0 < up ∧ ((!wh) = true ∨ (up != nv) = true)) ∨ dr = true ∧ (!wh == (e == 1)) = true) : False := by
  rcases h with (⟨⟨h1, h2⟩, h3⟩ | ⟨h1, h2⟩) | ⟨h1, h2⟩
  · rw [f6 h1 (by simpa using h2)] at h3; cases bw <;> simp at h3
  · obtain ⟨h3, h4⟩ := f7 h1
    rcases h2 with h2 | h2
    · rw [h3] at h2; simp at h2
    · rw [h4] at h2; simp at h2
  · rw [f8 h1] at h2; cases (e == 1) <;> simp at h2

set_option maxHeartbeats 8000000 in
theorem overRises_any (l : List Config) (node : Int) (ls : List Int) (A B : Option Addr) (n c m d : Nat) (F G : Nat → Prop) (w : World) (hl0 : Sl tConfig w F A n c l) (hs0 : Sl (tI .i64) w G B m d ls) :
    Calls Try.prog 5 #[.slice A n c, .int .i64 node, .slice B m d] w fun e w' => e = .returned (.bool true) ∧ Below w.heap.size w w' := by
  have hl := hl0.lt (by decide)
  have hs := hs0.lt (by decide)
  obtain ⟨hnm, hmx, hn1, hn2⟩ := hl.facts
  obtain ⟨hnm', hmx', hn1', hn2'⟩ := hs.facts
  go_enter Try.func5, Try.ntmps5
  go_wp2_with (go_at_call 24; refine (awake_any _).mono ?_; rintro e w1 ⟨rfl, hb1⟩; obtain ⟨cw1, fw1⟩ := bcell hb1; have sw1 := Below.size hb1; (try simp only [World.size_alloc, World.size_setCell, World.size_drew] at cw1 fw1 sw1))
  · go_ret
    exact ⟨rfl, by (repeat' (first | with_reducible exact Below.refl _ _ | ((with_reducible refine Below.alloc ?_ ?_ _); rotate_left; first | omega | (simp <;> omega)) | ((with_reducible refine Below.setCell ?_ ?_ _); rotate_left; first | (simp only; omega) | (simp <;> omega)) | with_reducible refine Below.drew ?_ | with_reducible refine below_drewN ?_ _ | ((with_reducible apply Bw.out); (first | exact hw' | exact hb1 | exact hb2 | exact hb3 | exact hb4 | exact hb5 | exact hb6 | exact hb7 | exact hb8 | exact hb9 | exact hb0 | exact hw | exact hb); rotate_left; first | omega | (simp <;> omega)) | assumption))⟩
  · go_loopw [8] (fun i wr => ∃ (k : Nat) (bk : Book) (A' : Option Addr) (n' c' : Nat), k ≤ n ∧ i = .int .i64 k ∧ Below w1.heap.size w1 wr ∧ Box wr w1.heap.size 26 [.int .i64 bk.cfg.epoch, .slice A' n' c', .int .i64 bk.since, .bool bk.whole, .int .i64 bk.upto]) (fun i _ => n - (intOf i).toNat)
    case atStart => exact ⟨0, zeroBook, none, 0, 0, Nat.zero_le _, rfl, by (repeat' (first | with_reducible exact Below.refl _ _ | ((with_reducible refine Below.alloc ?_ ?_ _); rotate_left; first | omega | (simp <;> omega)) | ((with_reducible refine Below.setCell ?_ ?_ _); rotate_left; first | (simp only; omega) | (simp <;> omega)) | with_reducible refine Below.drew ?_ | with_reducible refine below_drewN ?_ _ | ((with_reducible apply Bw.out); (first | exact hw' | exact hb1 | exact hb2 | exact hb3 | exact hb4 | exact hb5 | exact hb6 | exact hb7 | exact hb8 | exact hb9 | exact hb0 | exact hw | exact hb); rotate_left; first | omega | (simp <;> omega)) | assumption)), show Box _ _ _ [.int .i64 0, .slice none 0 0, .int .i64 0, .bool false, .int .i64 0] by (repeat' (first | with_reducible exact hbox | with_reducible apply Box.set_ | ((with_reducible apply Box.new); first | (simp only [World.size_alloc, World.size_setCell, World.size_drew]; done) | ((try simp only [World.size_alloc, World.size_setCell, World.size_drew]); omega)) | with_reducible apply Box.alloc | ((with_reducible apply Box.far); rotate_left; (simp only; omega)) | with_reducible apply Box.drew | ((with_reducible apply Box.via); (first | exact hw' | exact hb1 | exact hb2 | exact hb3 | exact hb4 | exact hb5 | exact hb6 | exact hb7 | exact hb8 | exact hb9 | exact hb0 | exact hw | exact hb); rotate_left; ((try simp only [World.size_alloc, World.size_setCell, World.size_drew]); omega)) | (simp only [List.set_cons_succ, List.set_cons_zero]; done) | ((try simp only [List.set_cons_succ, List.set_cons_zero]); with_reducible exact rfl)))⟩
    case round =>
      obtain ⟨k, bk, A', n', c', hk, rfl, hw, hbox⟩ := hrel
      have bx := fun i => hbox.cell i
      have bz := fun i => hbox.frozen i
      have zb := hbox.lt
      have hbw : Below w.heap.size w wr := by (repeat' (first | with_reducible exact Below.refl _ _ | ((with_reducible refine Below.alloc ?_ ?_ _); rotate_left; first | omega | (simp <;> omega)) | ((with_reducible refine Below.setCell ?_ ?_ _); rotate_left; first | (simp only; omega) | (simp <;> omega)) | with_reducible refine Below.drew ?_ | with_reducible refine below_drewN ?_ _ | ((with_reducible apply Bw.out); (first | exact hw' | exact hb1 | exact hb2 | exact hb3 | exact hb4 | exact hb5 | exact hb6 | exact hb7 | exact hb8 | exact hb9 | exact hb0 | exact hw | exact hb); rotate_left; first | omega | (simp <;> omega)) | assumption))
      by_cases hkn : k < n
      · obtain ⟨b', o, t, At, nt, ct, rfl, hF, hbl, ht, hte, htm, c0, c1⟩ := (hl.below (by decide) hbw).cfg hkn
        have hv : ∃ nv : Int, (k < m → ∃ b o, B = some ⟨b, o, none⟩ ∧ wr.cell? ⟨b, o + k, none⟩ = some (.int .i64 nv)) ∧ (m ≤ k → nv = 0) := by
          by_cases hkm : k < m
          · obtain ⟨b2, o2, x, rfl, _, _, _, _, h0⟩ := (hs.below (by decide) hbw).int_ hkm
            exact ⟨x, fun _ => ⟨b2, o2, rfl, h0⟩, fun h => by omega⟩
          · exact ⟨0, fun h => absurd h hkm, fun _ => rfl⟩
        obtain ⟨nv, hv1, hv2⟩ := hv
        have hv1 := Lib.hid hv1
        have hv2 := Lib.hid hv2
        go_upto_if 36 with (fail)
        · go_wp2
          go_ret
          exact ⟨rfl, by (repeat' (first | with_reducible exact Below.refl _ _ | ((with_reducible refine Below.alloc ?_ ?_ _); rotate_left; first | omega | (simp <;> omega)) | ((with_reducible refine Below.setCell ?_ ?_ _); rotate_left; first | (simp only; omega) | (simp <;> omega)) | with_reducible refine Below.drew ?_ | with_reducible refine below_drewN ?_ _ | ((with_reducible apply Bw.out); (first | exact hw' | exact hb1 | exact hb2 | exact hb3 | exact hb4 | exact hb5 | exact hb6 | exact hb7 | exact hb8 | exact hb9 | exact hb0 | exact hw | exact hb); rotate_left; first | omega | (simp <;> omega)) | assumption))⟩
        · go_cut [9] (fun v w' => v = .int .i64 nv ∧ w' = wr)
          case first =>
            by_cases hkm : k < m
            · obtain ⟨b2, o2, rfl, h0⟩ := hv1.out hkm
              go_wp2
              go_meet
              exact ⟨rfl, rfl⟩
            · have h0 := hv2.out (by omega)
              subst h0
              go_wp2
              go_meet
              exact ⟨rfl, rfl⟩
          case rest =>
            obtain ⟨rfl, rfl⟩ := hcut
            go_upto_region 14 with (fail)
            obtain ⟨r, hr⟩ : ∃ r, overS bk t node nv = r := ⟨_, rfl⟩
            have hr' := Lib.hid hr
            go_cut [10, 11, 12] (fun p dr er w' => ∃ (g : Nat) (A3 : Option Addr) (n3 k3 : Nat), p = .pointer (some ⟨g, 0, none⟩) ∧ dr = .bool r.2.1 ∧ er = .int .i64 r.2.2 ∧ wc.heap.size ≤ g ∧
              Box w' g 26 [.int .i64 r.1.cfg.epoch, .slice A3 n3 k3, .int .i64 r.1.since, .bool r.1.whole, .int .i64 r.1.upto] ∧ SlM w' (fun _ => True) A3 n3 k3 r.1.cfg.members ∧ Bw wc w')
            case first =>
              have kb : ∀ w', Bw wc w' → ∀ i, w'.cell? ⟨w1.heap.size, i, none⟩ = [.int .i64 bk.cfg.epoch, .slice A' n' c', .int .i64 bk.since, .bool bk.whole, .int .i64 bk.upto][i]? := fun w' h => (Box.via h hbox hbox.lt).cell
              have e0 : ∀ w', Bw wc w' → w'.cell? ⟨b', o + k * 2, none⟩ = some (.int .i64 t.epoch) := fun w' h => Bw.cell h c0
              have e1 : ∀ w', Bw wc w' → w'.cell? ⟨b', o + k * 2 + 1, none⟩ = some (.slice At nt ct) := fun w' h => Bw.cell h c1
              clear hr bx bz
              go_region_held3 (Bw wc) (first | exact Bw.refl _ | exact Bw.drew _ | (show Below _ _ _; (repeat' (first | with_reducible exact Below.refl _ _ | ((with_reducible refine Below.alloc ?_ ?_ _); rotate_left; first | omega | (simp <;> omega)) | ((with_reducible refine Below.setCell ?_ ?_ _); rotate_left; first | (simp only; omega) | (simp <;> omega)) | with_reducible refine Below.drew ?_ | with_reducible refine below_drewN ?_ _ | ((with_reducible apply Bw.out); (first | exact hw' | exact hb1 | exact hb2 | exact hb3 | exact hb4 | exact hb5 | exact hb6 | exact hb7 | exact hb8 | exact hb9 | exact hb0 | exact hw | exact hb); rotate_left; first | omega | (simp <;> omega)) | assumption))))
                (first | (go_at_call 12; refine (over_is bk t node nv r hr'.out A' At n' c' nt ct _ _ (htm.below (by decide) (by (repeat' (first | with_reducible exact Below.refl _ _ | ((with_reducible refine Below.alloc ?_ ?_ _); rotate_left; first | omega | (simp <;> omega)) | ((with_reducible refine Below.setCell ?_ ?_ _); rotate_left; first | (simp only; omega) | (simp <;> omega)) | with_reducible refine Below.drew ?_ | with_reducible refine below_drewN ?_ _ | ((with_reducible apply Bw.out); (first | exact hw' | exact hb1 | exact hb2 | exact hb3 | exact hb4 | exact hb5 | exact hb6 | exact hb7 | exact hb8 | exact hb9 | exact hb0 | exact hw | exact hb); rotate_left; first | omega | (simp <;> omega)) | assumption)))) (by omega)).mono ?_; rintro e w3 ⟨A3, n3, k3, rfl, hv3, hb3⟩; obtain ⟨cw3, fw3⟩ := bcell hb3; have sw3 := Below.size hb3; (try simp only [World.size_alloc, World.size_setCell, World.size_drew] at cw3 fw3 sw3); (try have l3 : wc.heap.size < w3.heap.size := (by omega))))
              all_goals (go_wp2_with fail; go_meet)
              all_goals (exact ⟨_, A3, n3, k3, rfl, rfl, rfl, (by (try simp only); omega), by (repeat' (first | with_reducible exact hbox | with_reducible apply Box.set_ | ((with_reducible apply Box.new); first | (simp only [World.size_alloc, World.size_setCell, World.size_drew]; done) | ((try simp only [World.size_alloc, World.size_setCell, World.size_drew]); omega)) | with_reducible apply Box.alloc | ((with_reducible apply Box.far); rotate_left; (simp only; omega)) | with_reducible apply Box.drew | ((with_reducible apply Box.via); (first | exact hw' | exact hb1 | exact hb2 | exact hb3 | exact hb4 | exact hb5 | exact hb6 | exact hb7 | exact hb8 | exact hb9 | exact hb0 | exact hw | exact hb); rotate_left; ((try simp only [World.size_alloc, World.size_setCell, World.size_drew]); omega)) | (simp only [List.set_cons_succ, List.set_cons_zero]; done) | ((try simp only [List.set_cons_succ, List.set_cons_zero]); with_reducible exact rfl))), ((hv3.fag flatM (by (repeat' (first | with_reducible exact Ag.refl _ _ | ((with_reducible refine Ag.alloc ?_ ?_ _); rotate_left; (rintro g ⟨hg1, hg2⟩; (try simp only [World.size_alloc, World.size_setCell, World.size_drew]); omega)) | ((with_reducible refine Ag.setCell ?_ ?_ _); rotate_left; (rintro ⟨hg1, hg2⟩; (try simp only [World.size_alloc, World.size_setCell, World.size_drew] at hg1 hg2); omega)) | with_reducible refine Ag.drew ?_ | ((with_reducible apply Ag.via); (first | exact hw' | exact hb1 | exact hb2 | exact hb3 | exact hb4 | exact hb5 | exact hb6 | exact hb7 | exact hb8 | exact hb9 | exact hb0 | exact hw | exact hb); rotate_left; (rintro g ⟨hg1, hg2⟩; (try simp only [World.size_alloc, World.size_setCell, World.size_drew]); omega)))))).slc (by decide) flatM).mono fun _ _ => trivial, by assumption⟩)
            case rest =>
              obtain ⟨g, A3, n3, k3, rfl, rfl, rfl, hg, hbox3, hv3, hb3⟩ := hcut
              obtain ⟨cw3, fw3⟩ := bcell hb3; have sw3 := Below.size hb3; (try simp only [World.size_alloc, World.size_setCell, World.size_drew] at cw3 fw3 sw3)
              have l3 := hbox3.lt
              have bx3 := fun i => hbox3.cell i
              clear hr
              rcases over_cases hr'.out with ⟨rfl, hc⟩ | ⟨rfl, hc⟩ | ⟨s, wh, up, dr, rfl, f1, f2, f3, f4, f5, f6, f7, f8⟩
              · dsimp only at hbox3 hv3 bx3
                have hbox := Box.via hb3 hbox zb
                have zb := hbox.lt
                have c0 := Bw.cell hb3 c0
                have c1 := Bw.cell hb3 c1
                have hbl : b' < wc.heap.size := by omega
                have htm := htm.below (by decide) hb3
                clear cw1 fw1 cw3 fw3
                go_upto_region 16 with fail
                refine wp_region_q (C := Bw _) (fun _ => by kernel_rfl) (fun _ => by kernel_rfl) (Bw.refl _) (Bw.drew _) ?_
                repeat
                  first
                  | (refine wpQuiet_go rfl ?_; apply Exists.intro
                     refine ⟨fun w' hw' => ?_, ?_⟩
                     · first
                       | (apply quietAt_or; (with_reducible exact rfl); exact rfl; exact rfl)
                       | (apply quietAt_and; (with_reducible exact rfl); exact rfl; exact rfl)
                       | (have bc := bcell hw'; go_simp; first | exact rfl | exact ⟨rfl, rfl⟩ | exact Bw.call hw' (sameBook_any zeroBook zeroBook A3 none n3 k3 0 0 _ (fun _ => True) _ (hv3.below (by decide) hw') Sl.nil) | exact Bw.call hw' (may_any t At nt ct _ _ (htm.below (by decide) hw')))
                     simp only [Act.put, List.setIfInBounds_toArray, List.set_cons_zero, List.set_cons_succ, gd_gd])
                  | ((first | refine wpQuiet_if (wanted_t rfl rfl rfl) ?_ | refine wpQuiet_if (wanted_f rfl rfl rfl) ?_ | refine wpQuiet_if (wanted_gt rfl rfl rfl) ?_ | refine wpQuiet_if (wanted_gf rfl rfl rfl) ?_); apply Exists.intro
                     refine ⟨fun hp w' hw' => ?_, ?_⟩
                     · first
                       | (apply quietAt_or; (with_reducible exact rfl); exact rfl; exact rfl)
                       | (apply quietAt_and; (with_reducible exact rfl); exact rfl; exact rfl)
                       | (apply quietAt_gor; (with_reducible exact rfl); exact rfl; exact rfl; exact hp)
                       | (apply quietAt_gand; (with_reducible exact rfl); exact rfl; exact rfl; exact hp)
                       | ((try simp only [Bool.and_eq_true, Bool.or_eq_false_iff, Bool.not_eq_true', Bool.not_eq_eq_eq_not, Bool.not_true, Bool.not_false] at hp); have bc := bcell hw'; go_simp; first | exact rfl | exact ⟨rfl, rfl⟩ | exact Bw.call hw' (sameBook_any zeroBook zeroBook A3 none n3 k3 0 0 _ (fun _ => True) _ (hv3.below (by decide) hw') Sl.nil) | exact Bw.call hw' (may_any t At nt ct _ _ (htm.below (by decide) hw')))
                       | ((try simp only [Bool.and_eq_true, Bool.or_eq_false_iff, Bool.not_eq_true', Bool.not_eq_eq_eq_not, Bool.not_true, Bool.not_false] at hp); simp only [↓hp, gd_true, Bool.not_false, Bool.not_true, Bool.and_true, Bool.true_and]; have bc := bcell hw'; go_simp; first | exact rfl | exact ⟨rfl, rfl⟩ | exact Bw.call hw' (sameBook_any zeroBook zeroBook A3 none n3 k3 0 0 _ (fun _ => True) _ (hv3.below (by decide) hw') Sl.nil) | exact Bw.call hw' (may_any t At nt ct _ _ (htm.below (by decide) hw')))
                       | (apply quietAt_absurd; simp at hp; done)
                     simp only [Act.put, List.setIfInBounds_toArray, List.set_cons_zero, List.set_cons_succ, gd_gd])
                refine wpQuiet_nil (fun w4 hb4 => ?_)
                obtain ⟨cw4, fw4⟩ := bcell hb4
                have sw4 := Bw.size hb4
                try simp only [World.size_alloc, World.size_setCell, World.size_drew] at cw4 fw4 sw4
                have hz := eqb_refl zeroBook
                go_wp2
                · exact absurd ‹(!eqb zeroBook zeroBook) = true ∨ _› (by simp [hz])
                · clear ‹_ ∧ True›
                  exact ⟨⟨k + 1, bk, A', n', c', by omega, by go_num, hw.trans (by (repeat' (first | with_reducible exact Below.refl _ _ | ((with_reducible refine Below.alloc ?_ ?_ _); rotate_left; first | omega | (simp <;> omega)) | ((with_reducible refine Below.setCell ?_ ?_ _); rotate_left; first | (simp only; omega) | (simp <;> omega)) | with_reducible refine Below.drew ?_ | with_reducible refine below_drewN ?_ _ | ((with_reducible apply Bw.out); (first | exact hw' | exact hb1 | exact hb2 | exact hb3 | exact hb4 | exact hb5 | exact hb6 | exact hb7 | exact hb8 | exact hb9 | exact hb0 | exact hw | exact hb); rotate_left; first | omega | (simp <;> omega)) | assumption))), Box.via hb4 hbox zb⟩, by simp [intOf]; omega⟩
              · dsimp only at hbox3 hv3 bx3
                have hbox := Box.via hb3 hbox zb
                have zb := hbox.lt
                have c0 := Bw.cell hb3 c0
                have c1 := Bw.cell hb3 c1
                have hbl : b' < wc.heap.size := by omega
                have htm := htm.below (by decide) hb3
                clear cw1 fw1 cw3 fw3
                go_upto_region 16 with fail
                refine wp_region_q (C := Bw _) (fun _ => by kernel_rfl) (fun _ => by kernel_rfl) (Bw.refl _) (Bw.drew _) ?_
                repeat
                  first
                  | (refine wpQuiet_go rfl ?_; apply Exists.intro
                     refine ⟨fun w' hw' => ?_, ?_⟩
                     · first
                       | (apply quietAt_or; (with_reducible exact rfl); exact rfl; exact rfl)
                       | (apply quietAt_and; (with_reducible exact rfl); exact rfl; exact rfl)
                       | (have bc := bcell hw'; go_simp; first | exact rfl | exact ⟨rfl, rfl⟩ | exact Bw.call hw' (sameBook_any zeroBook zeroBook A3 none n3 k3 0 0 _ (fun _ => True) _ (hv3.below (by decide) hw') Sl.nil) | exact Bw.call hw' (may_any t At nt ct _ _ (htm.below (by decide) hw')))
                     simp only [Act.put, List.setIfInBounds_toArray, List.set_cons_zero, List.set_cons_succ, gd_gd])
                  | ((first | refine wpQuiet_if (wanted_t rfl rfl rfl) ?_ | refine wpQuiet_if (wanted_f rfl rfl rfl) ?_ | refine wpQuiet_if (wanted_gt rfl rfl rfl) ?_ | refine wpQuiet_if (wanted_gf rfl rfl rfl) ?_); apply Exists.intro
                     refine ⟨fun hp w' hw' => ?_, ?_⟩
                     · first
                       | (apply quietAt_or; (with_reducible exact rfl); exact rfl; exact rfl)
                       | (apply quietAt_and; (with_reducible exact rfl); exact rfl; exact rfl)
                       | (apply quietAt_gor; (with_reducible exact rfl); exact rfl; exact rfl; exact hp)
                       | (apply quietAt_gand; (with_reducible exact rfl); exact rfl; exact rfl; exact hp)
                       | ((try simp only [Bool.and_eq_true, Bool.or_eq_false_iff, Bool.not_eq_true', Bool.not_eq_eq_eq_not, Bool.not_true, Bool.not_false] at hp); have bc := bcell hw'; go_simp; first | exact rfl | exact ⟨rfl, rfl⟩ | exact Bw.call hw' (sameBook_any zeroBook zeroBook A3 none n3 k3 0 0 _ (fun _ => True) _ (hv3.below (by decide) hw') Sl.nil) | exact Bw.call hw' (may_any t At nt ct _ _ (htm.below (by decide) hw')))
                       | ((try simp only [Bool.and_eq_true, Bool.or_eq_false_iff, Bool.not_eq_true', Bool.not_eq_eq_eq_not, Bool.not_true, Bool.not_false] at hp); simp only [↓hp, gd_true, Bool.not_false, Bool.not_true, Bool.and_true, Bool.true_and]; have bc := bcell hw'; go_simp; first | exact rfl | exact ⟨rfl, rfl⟩ | exact Bw.call hw' (sameBook_any zeroBook zeroBook A3 none n3 k3 0 0 _ (fun _ => True) _ (hv3.below (by decide) hw') Sl.nil) | exact Bw.call hw' (may_any t At nt ct _ _ (htm.below (by decide) hw')))
                       | (apply quietAt_absurd; simp at hp; done)
                     simp only [Act.put, List.setIfInBounds_toArray, List.set_cons_zero, List.set_cons_succ, gd_gd])
                refine wpQuiet_nil (fun w4 hb4 => ?_)
                obtain ⟨cw4, fw4⟩ := bcell hb4
                have sw4 := Bw.size hb4
                try simp only [World.size_alloc, World.size_setCell, World.size_drew] at cw4 fw4 sw4
                have hz := eqb_refl zeroBook
                go_wp2
                · exact absurd ‹(!eqb zeroBook zeroBook) = true ∨ _› (by simp [hz])
                · clear ‹_ ∧ True›
                  exact ⟨⟨k + 1, bk, A', n', c', by omega, by go_num, hw.trans (by (repeat' (first | with_reducible exact Below.refl _ _ | ((with_reducible refine Below.alloc ?_ ?_ _); rotate_left; first | omega | (simp <;> omega)) | ((with_reducible refine Below.setCell ?_ ?_ _); rotate_left; first | (simp only; omega) | (simp <;> omega)) | with_reducible refine Below.drew ?_ | with_reducible refine below_drewN ?_ _ | ((with_reducible apply Bw.out); (first | exact hw' | exact hb1 | exact hb2 | exact hb3 | exact hb4 | exact hb5 | exact hb6 | exact hb7 | exact hb8 | exact hb9 | exact hb0 | exact hw | exact hb); rotate_left; first | omega | (simp <;> omega)) | assumption))), Box.via hb4 hbox zb⟩, by simp [intOf]; omega⟩
              · dsimp only at hbox3 hv3 bx3
                have hbox := Box.via hb3 hbox zb
                have bx := fun i => hbox.cell i
                have bz := fun i => hbox.frozen i
                have zb := hbox.lt
                have c0 := Bw.cell hb3 c0
                have c1 := Bw.cell hb3 c1
                have hbl : b' < wc.heap.size := by omega
                have htm := htm.below (by decide) hb3
                clear cw1 fw1 cw3 fw3
                go_upto_region 19 with (go_at_call 26; refine (At_any t At nt ct _ node _ (htm.below (by decide) (by (repeat' (first | with_reducible exact Below.refl _ _ | ((with_reducible refine Below.alloc ?_ ?_ _); rotate_left; first | omega | (simp <;> omega)) | ((with_reducible refine Below.setCell ?_ ?_ _); rotate_left; first | (simp only; omega) | (simp <;> omega)) | with_reducible refine Below.drew ?_ | with_reducible refine below_drewN ?_ _ | ((with_reducible apply Bw.out); (first | exact hw' | exact hb1 | exact hb2 | exact hb3 | exact hb4 | exact hb5 | exact hb6 | exact hb7 | exact hb8 | exact hb9 | exact hb0 | exact hw | exact hb); rotate_left; first | omega | (simp <;> omega)) | assumption))))).mono ?_; rintro e w4 ⟨rfl, hb4⟩; obtain ⟨cw4, fw4⟩ := bcell hb4; have sw4 := Below.size hb4; (try simp only [World.size_alloc, World.size_setCell, World.size_drew] at cw4 fw4 sw4); have l4 : g < w4.heap.size := (by omega); have l5 : w1.heap.size < w4.heap.size := (by omega); have l6 : b' < w4.heap.size := (by omega))
                refine wp_region_q (C := Bw _) (fun _ => by kernel_rfl) (fun _ => by kernel_rfl) (Bw.refl _) (Bw.drew _) ?_
                repeat
                  first
                  | (refine wpQuiet_go rfl ?_; apply Exists.intro
                     refine ⟨fun w' hw' => ?_, ?_⟩
                     · first
                       | (apply quietAt_or; (with_reducible exact rfl); exact rfl; exact rfl)
                       | (apply quietAt_and; (with_reducible exact rfl); exact rfl; exact rfl)
                       | (have bc := bcell hw'; go_simp; first | exact rfl | exact ⟨rfl, rfl⟩ | fail)
                     simp only [Act.put, List.setIfInBounds_toArray, List.set_cons_zero, List.set_cons_succ, gd_gd])
                  | ((first | refine wpQuiet_if (wanted_t rfl rfl rfl) ?_ | refine wpQuiet_if (wanted_f rfl rfl rfl) ?_ | refine wpQuiet_if (wanted_gt rfl rfl rfl) ?_ | refine wpQuiet_if (wanted_gf rfl rfl rfl) ?_); apply Exists.intro
                     refine ⟨fun hp w' hw' => ?_, ?_⟩
                     · first
                       | (apply quietAt_or; (with_reducible exact rfl); exact rfl; exact rfl)
                       | (apply quietAt_and; (with_reducible exact rfl); exact rfl; exact rfl)
                       | (apply quietAt_gor; (with_reducible exact rfl); exact rfl; exact rfl; exact hp)
                       | (apply quietAt_gand; (with_reducible exact rfl); exact rfl; exact rfl; exact hp)
                       | ((try simp only [Bool.and_eq_true, Bool.or_eq_false_iff, Bool.not_eq_true', Bool.not_eq_eq_eq_not, Bool.not_true, Bool.not_false] at hp); have bc := bcell hw'; go_simp; first | exact rfl | exact ⟨rfl, rfl⟩ | fail)
                       | ((try simp only [Bool.and_eq_true, Bool.or_eq_false_iff, Bool.not_eq_true', Bool.not_eq_eq_eq_not, Bool.not_true, Bool.not_false] at hp); simp only [↓hp, gd_true, Bool.not_false, Bool.not_true, Bool.and_true, Bool.true_and]; have bc := bcell hw'; go_simp; first | exact rfl | exact ⟨rfl, rfl⟩ | fail)
                       | (apply quietAt_absurd; simp at hp; done)
                     simp only [Act.put, List.setIfInBounds_toArray, List.set_cons_zero, List.set_cons_succ, gd_gd])
                refine wpQuiet_nil (fun w5 hb5 => ?_)
                obtain ⟨cw5, fw5⟩ := bcell hb5
                have sw5 := Bw.size hb5
                try simp only [World.size_alloc, World.size_setCell, World.size_drew] at cw5 fw5 sw5
                have l7 : g < w5.heap.size := by omega
                have l8 : w1.heap.size < w5.heap.size := by omega
                have l9 : b' < w5.heap.size := by omega
                have l10 : w4.heap.size < w5.heap.size := by omega
                go_upto_region 21 with fail
                · exact (bad1 f1 f3 f4 f5 ‹_ ∨ _›).elim
                · clear ‹(((bk.cfg.epoch < t.epoch ∧ _) ∧ _) ∧ _)›
                  have ff := Lib.hid (And.intro f3 (And.intro f4 (And.intro f5 (And.intro f6 (And.intro f7 f8)))))
                  clear f1 f2 f3 f4 f5 f6 f7 f8
                  refine wp_region_q (C := Bw _) (fun _ => by kernel_rfl) (fun _ => by kernel_rfl) (Bw.refl _) (Bw.drew _) ?_
                  repeat
                    first
                    | (refine wpQuiet_go rfl ?_; apply Exists.intro
                       refine ⟨fun w' hw' => ?_, ?_⟩
                       · first
                         | (apply quietAt_or; (with_reducible exact rfl); exact rfl; exact rfl)
                         | (apply quietAt_and; (with_reducible exact rfl); exact rfl; exact rfl)
                         | (have bc := bcell hw'; go_simp; first | exact rfl | exact ⟨rfl, rfl⟩ | fail)
                       simp only [Act.put, List.setIfInBounds_toArray, List.set_cons_zero, List.set_cons_succ, gd_gd])
                    | ((first | refine wpQuiet_if (wanted_t rfl rfl rfl) ?_ | refine wpQuiet_if (wanted_f rfl rfl rfl) ?_ | refine wpQuiet_if (wanted_gt rfl rfl rfl) ?_ | refine wpQuiet_if (wanted_gf rfl rfl rfl) ?_); apply Exists.intro
                       refine ⟨fun hp w' hw' => ?_, ?_⟩
                       · first
                         | (apply quietAt_or; (with_reducible exact rfl); exact rfl; exact rfl)
                         | (apply quietAt_and; (with_reducible exact rfl); exact rfl; exact rfl)
                         | (apply quietAt_gor; (with_reducible exact rfl); exact rfl; exact rfl; exact hp)
                         | (apply quietAt_gand; (with_reducible exact rfl); exact rfl; exact rfl; exact hp)
                         | ((try simp only [Bool.and_eq_true, Bool.or_eq_false_iff, Bool.not_eq_true', Bool.not_eq_eq_eq_not, Bool.not_true, Bool.not_false] at hp); have bc := bcell hw'; go_simp; first | exact rfl | exact ⟨rfl, rfl⟩ | fail)
                         | ((try simp only [Bool.and_eq_true, Bool.or_eq_false_iff, Bool.not_eq_true', Bool.not_eq_eq_eq_not, Bool.not_true, Bool.not_false] at hp); simp only [↓hp, gd_true, Bool.not_false, Bool.not_true, Bool.and_true, Bool.true_and]; have bc := bcell hw'; go_simp; first | exact rfl | exact ⟨rfl, rfl⟩ | fail)
                         | (apply quietAt_absurd; simp at hp; done)
                       simp only [Act.put, List.setIfInBounds_toArray, List.set_cons_zero, List.set_cons_succ, gd_gd])
                  refine wpQuiet_nil (fun w6 hb6 => ?_)
                  obtain ⟨cw6, fw6⟩ := bcell hb6
                  have sw6 := Bw.size hb6
                  try simp only [World.size_alloc, World.size_setCell, World.size_drew] at cw6 fw6 sw6
                  have l11 : g < w6.heap.size := by omega
                  have l12 : w1.heap.size < w6.heap.size := by omega
                  go_wp2
                  · exact (bad2 ff.out.2.2.2.1 ff.out.2.2.2.2.1 ff.out.2.2.2.2.2 ‹_ ∨ _›).elim
                  · clear ‹_ ∧ _›
                    have hw6 : Below w1.heap.size w1 w6 := hw.trans (by (repeat' (first | with_reducible exact Below.refl _ _ | ((with_reducible refine Below.alloc ?_ ?_ _); rotate_left; first | omega | (simp <;> omega)) | ((with_reducible refine Below.setCell ?_ ?_ _); rotate_left; first | (simp only; omega) | (simp <;> omega)) | with_reducible refine Below.drew ?_ | with_reducible refine below_drewN ?_ _ | ((with_reducible apply Bw.out); (first | exact hw' | exact hb1 | exact hb2 | exact hb3 | exact hb4 | exact hb5 | exact hb6 | exact hb7 | exact hb8 | exact hb9 | exact hb0 | exact hw | exact hb); rotate_left; first | omega | (simp <;> omega)) | assumption)))
                    have hbox : Box w6 w1.heap.size 26 [.int .i64 bk.cfg.epoch, .slice A' n' c', .int .i64 bk.since, .bool bk.whole, .int .i64 bk.upto] := by (repeat' (first | with_reducible exact hbox | with_reducible apply Box.set_ | ((with_reducible apply Box.new); first | (simp only [World.size_alloc, World.size_setCell, World.size_drew]; done) | ((try simp only [World.size_alloc, World.size_setCell, World.size_drew]); omega)) | with_reducible apply Box.alloc | ((with_reducible apply Box.far); rotate_left; (simp only; omega)) | with_reducible apply Box.drew | ((with_reducible apply Box.via); (first | exact hw' | exact hb1 | exact hb2 | exact hb3 | exact hb4 | exact hb5 | exact hb6 | exact hb7 | exact hb8 | exact hb9 | exact hb0 | exact hw | exact hb); rotate_left; ((try simp only [World.size_alloc, World.size_setCell, World.size_drew]); omega)) | (simp only [List.set_cons_succ, List.set_cons_zero]; done) | ((try simp only [List.set_cons_succ, List.set_cons_zero]); with_reducible exact rfl)))
                    refine ⟨⟨k + 1, ⟨t, s, wh, up⟩, A3, n3, k3, by omega, by go_num, ?_, ?_⟩, by simp [intOf]; omega⟩
                    · (repeat' (first | exact hw6 | ((with_reducible refine Below.setCell ?_ ?_ _); rotate_left; (simp only; omega))))
                    · show Box _ _ _ [.int .i64 t.epoch, .slice A3 n3 k3, .int .i64 s, .bool wh, .int .i64 up]
                      (repeat' (first | with_reducible exact hbox | with_reducible apply Box.set_ | ((with_reducible apply Box.new); first | (simp only [World.size_alloc, World.size_setCell, World.size_drew]; done) | ((try simp only [World.size_alloc, World.size_setCell, World.size_drew]); omega)) | with_reducible apply Box.alloc | ((with_reducible apply Box.far); rotate_left; (simp only; omega)) | with_reducible apply Box.drew | ((with_reducible apply Box.via); (first | exact hw' | exact hb1 | exact hb2 | exact hb3 | exact hb4 | exact hb5 | exact hb6 | exact hb7 | exact hb8 | exact hb9 | exact hb0 | exact hw | exact hb); rotate_left; ((try simp only [World.size_alloc, World.size_setCell, World.size_drew]); omega)) | (simp only [List.set_cons_succ, List.set_cons_zero]; done) | ((try simp only [List.set_cons_succ, List.set_cons_zero]); with_reducible exact rfl)))
      · go_wp2
        go_ret
        exact ⟨rfl, by (repeat' (first | with_reducible exact Below.refl _ _ | ((with_reducible refine Below.alloc ?_ ?_ _); rotate_left; first | omega | (simp <;> omega)) | ((with_reducible refine Below.setCell ?_ ?_ _); rotate_left; first | (simp only; omega) | (simp <;> omega)) | with_reducible refine Below.drew ?_ | with_reducible refine below_drewN ?_ _ | ((with_reducible apply Bw.out); (first | exact hw' | exact hb1 | exact hb2 | exact hb3 | exact hb4 | exact hb5 | exact hb6 | exact hb7 | exact hb8 | exact hb9 | exact hb0 | exact hw | exact hb); rotate_left; first | omega | (simp <;> omega)) | assumption))⟩
end Go.Proofs.Ytkdbedbefojieaa
