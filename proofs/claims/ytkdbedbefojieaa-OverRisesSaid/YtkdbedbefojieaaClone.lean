/-
  slices.Clone of members, bytes.Clone: what they compute.
-/
import Derived.Test.YtkdbedbefojieaaApp
import Derived.Test.YtkdbedbefojieaaData
import Derived.Deep.RegionHeld3
namespace Go.Proofs.Ytkdbedbefojieaa
set_option linter.unusedVariables false
set_option linter.unusedSimpArgs false
open Go.RowKit
set_option maxRecDepth 100000

theorem infoM : (Try.prog.info? 34).map (fun i => (i.zero, i.size, i.bytes)) = some (some (.agg #[.int .i64 0, .int .i64 0, .bool false]), 3, 24) := by kernel_rfl
theorem flatM : tMember.Flat := fun _ _ _ _ _ _ h => h

theorem cloneM_any (l : List Member) (A : Option Addr) (n c : Nat) (F : Nat → Prop) (w : World) (hs : SlM w F A n c l) (hn : n ≤ 1000000) :
    Calls Try.prog 79 #[.slice A n c] w fun e w' => ∃ A' n' c', e = .returned (.slice A' n' c') ∧ Own tMember 34 w' w.heap.size (fun _ => False) (.slice A' n' c') l ∧ Below w.heap.size w w' := by
  obtain ⟨i0, hi, hz0, hz1, hz2⟩ := info_parts infoM
  obtain ⟨hnm, hmx, hn1, hn2⟩ := hs.facts
  have qn := fun (w : World) (a : Option Addr) (n c n' c' : Nat) => Lib.run_eql_slice_nil (P := Try.prog) w 22 34 a n c n' c' Try.underlying22
  rcases A with _ | ad
  · have hl : l = [] := List.eq_nil_of_length_eq_zero (by have := hs.2.2.2.1 rfl; omega)
    have hc : c = 0 := hs.2.2.2.1 rfl
    have h0 : n = 0 := by omega
    subst hl hc h0
    go_enter Try.func79, Try.ntmps79
    go_wp2
    go_ret
    exact ⟨_, _, _, rfl, Own.nil, Below.refl _ _⟩
  · have hs1 := ((hs.lt (by decide)).keep ((Ag.refl _ w).alloc (fun b hb => hb.2) (.cells #[] 34)))
    go_enter Try.func79, Try.ntmps79
    go_wp2_with
      ((at_builtin; go_must (refine wpList_append_sl rfl (.tmp 5) (.tmp 6) 22 rfl i0 _ _ _ Try.underlying22 hi hz0 hz1 hz2 rfl rfl (by decide) l n (Own.lit0 (lo := w.heap.size) (Nat.le_refl _)) hs1 rfl rfl (by simp; omega) (by simp; omega) (by simp) (fun _ h => h) (by intro g hg; simp [Value.ownBlock] at hg; subst hg; rintro ⟨_, h⟩; omega) (by intro b hb; simp; omega) ?_))
       intro v1 w1 hown1 hg1 _)
    go_ret
    obtain ⟨A', n', c', rfl⟩ := hown1.form'
    exact ⟨A', n', c', rfl, by simpa using hown1.flat flatM _, by have := (Below.refl w.heap.size w).alloc (Nat.le_refl _) (.cells #[] 34); exact this.grown hg1 (by simp) (by intro k hk; simp [Value.ownBlock] at hk; omega)⟩

theorem own_any (x : Config) (A : Option Addr) (n c : Nat) (F : Nat → Prop) (w : World) (hs : SlM w F A n c x.members) (hn : n ≤ 1000000) :
    Calls Try.prog 36 #[.agg #[.int .i64 x.epoch, .slice A n c]] w fun e w' => ∃ A' n' c', e = .returned (.agg #[.int .i64 x.epoch, .slice A' n' c']) ∧ Own tMember 34 w' w.heap.size (fun _ => False) (.slice A' n' c') x.members ∧ Below w.heap.size w w' := by
  go_enter Try.func36, Try.ntmps36
  go_wp2_with fail
  refine wp_name (fun W0 hW0 => ?_)
  have k0 : ∀ w', Bw W0 w' → w'.cell? ⟨w.heap.size, 0, none⟩ = some (.int .i64 x.epoch) := fun w' h => Bw.cell h (by rw [hW0]; go_simp)
  have k1 : ∀ w', Bw W0 w' → w'.cell? ⟨w.heap.size, 1, none⟩ = some (.slice A n c) := fun w' h => Bw.cell h (by rw [hW0]; go_simp)
  have kf : ∀ w' o, Bw W0 w' → w'.frozen? ⟨w.heap.size, o, none⟩ = false := fun w' o h => Bw.frz h (lt_of_cell (k0 _ (Bw.refl _))) (by rw [hW0]; go_simp)
  have r0 : ∀ w', Bw W0 w' → w'.cell? ⟨w.heap.size + 1, 0, none⟩ = some (.int .i64 0) := fun w' h => Bw.cell h (by rw [hW0]; go_simp)
  have r1 : ∀ w', Bw W0 w' → w'.cell? ⟨w.heap.size + 1, 1, none⟩ = some (.slice none 0 0) := fun w' h => Bw.cell h (by rw [hW0]; go_simp)
  have rf : ∀ w' o, Bw W0 w' → w'.frozen? ⟨w.heap.size + 1, o, none⟩ = false := fun w' o h => Bw.frz h (lt_of_cell (r0 _ (Bw.refl _))) (by rw [hW0]; go_simp)
  have hb0 : Below w.heap.size w W0 := by rw [hW0]; (repeat' (first | with_reducible exact Below.refl _ _ | ((with_reducible refine Below.alloc ?_ ?_ _); rotate_left; first | omega | (simp <;> omega)) | ((with_reducible refine Below.setCell ?_ ?_ _); rotate_left; first | (simp only; omega) | (simp <;> omega)) | with_reducible refine Below.drew ?_ | with_reducible refine below_drewN ?_ _ | ((with_reducible apply Bw.out); (first | exact hw' | exact hb1 | exact hb2 | exact hb3 | exact hb4 | exact hb5 | exact hb6 | exact hb7 | exact hb8 | exact hb9 | exact hb0 | exact hw | exact hb); rotate_left; first | omega | (simp <;> omega)) | assumption))
  have HW := Lib.hid hW0; clear hW0
  go_region_held3 (fun w' => w'.cell? ⟨w.heap.size, 0, none⟩ = some (.int .i64 x.epoch) ∧ w'.cell? ⟨w.heap.size, 1, none⟩ = some (.slice A n c)) (first | exact ⟨k0 _ (Bw.drew _), k1 _ (Bw.drew _)⟩ | exact ⟨k0 _ hw1, k1 _ hw1⟩ | go_keep)
    (first | (go_at_call 79; refine (cloneM_any x.members A n c F _ (hs.below (by decide) (hb0.trans (by (repeat' (first | with_reducible exact Below.refl _ _ | ((with_reducible refine Below.alloc ?_ ?_ _); rotate_left; first | omega | (simp <;> omega)) | ((with_reducible refine Below.setCell ?_ ?_ _); rotate_left; first | (simp only; omega) | (simp <;> omega)) | with_reducible refine Below.drew ?_ | with_reducible refine below_drewN ?_ _ | ((with_reducible apply Bw.out); (first | exact hw' | exact hb1 | exact hb2 | exact hb3 | exact hb4 | exact hb5 | exact hb6 | exact hb7 | exact hb8 | exact hb9 | exact hb0 | exact hw | exact hb); rotate_left; first | omega | (simp <;> omega)) | assumption))))) hn).mono ?_; rintro e w1 ⟨A', n', c', rfl, hv, hb1⟩; have hw1 : Bw W0 w1 := Bw.below (Bw.drew _) hb1))
  go_wp2
  have zr := lt_of_cell (r0 _ (Bw.refl _))
  refine bodyPost_ret (v := .agg #[.int .i64 x.epoch, .slice A' n' c']) (by simp only [results, Try.results36]; go_simp) rfl ?_
  exact ⟨A', n', c', rfl, (((hv.lo (by simp; omega : w.heap.size + 2 ≤ _)).fset flatM (by simp) _).fset flatM (by simp) _).lo (by omega), by (repeat' (first | with_reducible exact Below.refl _ _ | ((with_reducible refine Below.alloc ?_ ?_ _); rotate_left; first | omega | (simp <;> omega)) | ((with_reducible refine Below.setCell ?_ ?_ _); rotate_left; first | (simp only; omega) | (simp <;> omega)) | with_reducible refine Below.drew ?_ | with_reducible refine below_drewN ?_ _ | ((with_reducible apply Bw.out); (first | exact hw' | exact hb1 | exact hb2 | exact hb3 | exact hb4 | exact hb5 | exact hb6 | exact hb7 | exact hb8 | exact hb9 | exact hb0 | exact hw | exact hb); rotate_left; first | omega | (simp <;> omega)) | assumption))⟩
end Go.Proofs.Ytkdbedbefojieaa
