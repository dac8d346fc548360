/-
  The chapter's examples (awake), walked.
-/
import Derived.Test.YtkdbedbefojieaaOver5
namespace Go.Proofs.Ytkdbedbefojieaa
set_option linter.unusedVariables false
set_option linter.unusedSimpArgs false
open Go.RowKit
set_option maxRecDepth 100000
attribute [local go_sem] gd_true

/-- a block that holds the cells of a list, as a slice that reads -/
theorem Sl.ofBox {α : Type} {T : Ty α} {w : World} {F : Nat → Prop} {b n c : Nat} {e : TypeId} {vs : List Value} {l : List α} (hb : Box w b e vs) (hc : Cells T w F vs l) (hn : n = l.length) (hnc : n ≤ c) (hm : c ≤ maxLen) :
    Sl T w (fun x => F x ∨ x = b) (some ⟨b, 0, none⟩) n c l := by
  refine ⟨hn, hnc, hm, (fun e => by cases e), fun i x hx => ?_⟩
  obtain ⟨cs, hr, hcs⟩ := hc.at_ hx
  refine ⟨b, 0, cs, rfl, .inr rfl, T.mono hr (fun _ h => .inl h), fun j u hu => ?_⟩
  rw [hb.cell, Nat.zero_add]
  exact hcs j u hu

theorem over_is (b : Book) (t : Config) (node length : Int) (r : Book × Bool × Int) (hr : overS b t node length = r) (A B : Option Addr) (n c n' c' : Nat) (G : Nat → Prop) (w : World) (ht : SlM w G B n' c' t.members) (hn : n' ≤ 1000000) :
    Calls Try.prog 12 #[.agg #[.int .i64 b.cfg.epoch, .slice A n c, .int .i64 b.since, .bool b.whole, .int .i64 b.upto], .agg #[.int .i64 t.epoch, .slice B n' c'], .int .i64 node, .int .i64 length] w fun e w' =>
      ∃ A' m c', e = .returned (.tuple #[.agg #[.int .i64 r.1.cfg.epoch, .slice A' m c', .int .i64 r.1.since, .bool r.1.whole, .int .i64 r.1.upto], .bool r.2.1, .int .i64 r.2.2]) ∧
      Own tMember 34 w' w.heap.size (fun _ => False) (.slice A' m c') r.1.cfg.members ∧ Below w.heap.size w w' := by
  subst hr
  exact over_any b t node length A B n c n' c' G w ht hn

theorem calls_name {P : Program} {f : FuncId} {args : Array Value} {w : World} {R : Ending → World → Prop} (h : ∀ W, W = w → Calls P f args W R) : Calls P f args w R := h w rfl

def oneC : Config := ⟨1, [⟨0, 1, true⟩, ⟨1, 1, true⟩]⟩
def twoC : Config := ⟨2, [⟨0, 1, true⟩, ⟨1, 1, true⟩, ⟨2, 2, false⟩]⟩
theorem may_one : mayS oneC = true := by
  rw [mayS_iff]
  refine ⟨by decide, by decide, by decide, by decide, fun i m hm => ?_⟩
  match i, hm with
  | 0, hm => cases hm; refine ⟨by decide, by decide, by decide, by decide, by decide, .inl rfl⟩
  | 1, hm => cases hm; refine ⟨by decide, by decide, by decide, by decide, by decide, .inl rfl⟩
  | i + 2, hm => cases hm
theorem may_two : mayS twoC = true := by
  rw [mayS_iff]
  refine ⟨by decide, by decide, by decide, by decide, fun i m hm => ?_⟩
  match i, hm with
  | 0, hm => cases hm; refine ⟨by decide, by decide, by decide, by decide, by decide, .inl rfl⟩
  | 1, hm => cases hm; refine ⟨by decide, by decide, by decide, by decide, by decide, .inl rfl⟩
  | 2, hm => cases hm; refine ⟨by decide, by decide, by decide, by decide, by decide, .inr ⟨by decide, by decide⟩⟩
  | i + 3, hm => cases hm
theorem o1 : overS zeroBook oneC 0 0 = (⟨oneC, 1, true, 0⟩, true, 0) := by
  have h := atMS_some (t := oneC) (node := 0) (j := 0) may_one rfl rfl
  simp [overS, may_one, h, zeroBook, zeroCfg, show oneC.epoch = 1 from rfl]
theorem o2 : overS ⟨oneC, 1, true, 0⟩ twoC 0 7 = (⟨twoC, 1, true, 7⟩, false, 0) := by
  have h := atMS_some (t := twoC) (node := 0) (j := 0) may_two rfl rfl
  simp [overS, may_two, h, show oneC.epoch = 1 from rfl, show twoC.epoch = 2 from rfl]
theorem o3 : overS zeroBook twoC 2 0 = (⟨twoC, 2, false, 0⟩, true, 0) := by
  have h := atMS_some (t := twoC) (node := 2) (j := 2) may_two rfl rfl
  simp [overS, may_two, h, zeroBook, zeroCfg, show twoC.epoch = 2 from rfl]
theorem o4 : overS ⟨twoC, 1, true, 7⟩ oneC 0 7 = (zeroBook, false, 240) := by
  simp [overS, may_one, show oneC.epoch = 1 from rfl, show twoC.epoch = 2 from rfl]

set_option maxHeartbeats 4000000 in
theorem awake_any (w : World) : Calls Try.prog 24 #[] w fun e w' => e = .returned (.bool true) ∧ Below w.heap.size w w' := by
  go_enter Try.func24, Try.ntmps24
  go_wp2_with fail
  refine calls_name (fun W0 hW0 => ?_)
  have hb0 : Below w.heap.size w W0 := by rw [hW0]; (repeat' (first | with_reducible exact Below.refl _ _ | ((with_reducible refine Below.alloc ?_ ?_ _); rotate_left; first | omega | (simp <;> omega)) | ((with_reducible refine Below.setCell ?_ ?_ _); rotate_left; first | (simp only; omega) | (simp <;> omega)) | with_reducible refine Below.drew ?_ | with_reducible refine below_drewN ?_ _ | ((with_reducible apply Bw.out); (first | exact hw' | exact hb1 | exact hb2 | exact hb3 | exact hb4 | exact hb5 | exact hb6 | exact hb7 | exact hb8 | exact hb9 | exact hb0 | exact hw | exact hb); rotate_left; first | omega | (simp <;> omega)) | assumption))
  have x0 : Box W0 w.heap.size 34 [.int .i64 0, .int .i64 1, .bool true, .int .i64 1, .int .i64 1, .bool true] := by rw [hW0]; (repeat' (first | with_reducible exact hbox | with_reducible apply Box.set_ | ((with_reducible apply Box.new); first | (simp only [World.size_alloc, World.size_setCell, World.size_drew]; done) | ((try simp only [World.size_alloc, World.size_setCell, World.size_drew]); omega)) | with_reducible apply Box.alloc | ((with_reducible apply Box.far); rotate_left; (simp only; omega)) | with_reducible apply Box.drew | ((with_reducible apply Box.via); (first | exact hw' | exact hb1 | exact hb2 | exact hb3 | exact hb4 | exact hb5 | exact hb6 | exact hb7 | exact hb8 | exact hb9 | exact hb0 | exact hw | exact hb); rotate_left; ((try simp only [World.size_alloc, World.size_setCell, World.size_drew]); omega)) | (simp only [List.set_cons_succ, List.set_cons_zero]; done) | ((try simp only [List.set_cons_succ, List.set_cons_zero]); with_reducible exact rfl)))
  have x1 : Box W0 (w.heap.size + 1) 24 [.int .i64 1, .slice (some ⟨w.heap.size, 0, none⟩) 2 2] := by rw [hW0]; (repeat' (first | with_reducible exact hbox | with_reducible apply Box.set_ | ((with_reducible apply Box.new); first | (simp only [World.size_alloc, World.size_setCell, World.size_drew]; done) | ((try simp only [World.size_alloc, World.size_setCell, World.size_drew]); omega)) | with_reducible apply Box.alloc | ((with_reducible apply Box.far); rotate_left; (simp only; omega)) | with_reducible apply Box.drew | ((with_reducible apply Box.via); (first | exact hw' | exact hb1 | exact hb2 | exact hb3 | exact hb4 | exact hb5 | exact hb6 | exact hb7 | exact hb8 | exact hb9 | exact hb0 | exact hw | exact hb); rotate_left; ((try simp only [World.size_alloc, World.size_setCell, World.size_drew]); omega)) | (simp only [List.set_cons_succ, List.set_cons_zero]; done) | ((try simp only [List.set_cons_succ, List.set_cons_zero]); with_reducible exact rfl)))
  have x2 : Box W0 (w.heap.size + 1 + 1) 34 [.int .i64 0, .int .i64 1, .bool true, .int .i64 1, .int .i64 1, .bool true, .int .i64 2, .int .i64 2, .bool false] := by rw [hW0]; (repeat' (first | with_reducible exact hbox | with_reducible apply Box.set_ | ((with_reducible apply Box.new); first | (simp only [World.size_alloc, World.size_setCell, World.size_drew]; done) | ((try simp only [World.size_alloc, World.size_setCell, World.size_drew]); omega)) | with_reducible apply Box.alloc | ((with_reducible apply Box.far); rotate_left; (simp only; omega)) | with_reducible apply Box.drew | ((with_reducible apply Box.via); (first | exact hw' | exact hb1 | exact hb2 | exact hb3 | exact hb4 | exact hb5 | exact hb6 | exact hb7 | exact hb8 | exact hb9 | exact hb0 | exact hw | exact hb); rotate_left; ((try simp only [World.size_alloc, World.size_setCell, World.size_drew]); omega)) | (simp only [List.set_cons_succ, List.set_cons_zero]; done) | ((try simp only [List.set_cons_succ, List.set_cons_zero]); with_reducible exact rfl)))
  have x3 : Box W0 (w.heap.size + 1 + 1 + 1) 24 [.int .i64 2, .slice (some ⟨w.heap.size + 1 + 1, 0, none⟩) 3 3] := by rw [hW0]; (repeat' (first | with_reducible exact hbox | with_reducible apply Box.set_ | ((with_reducible apply Box.new); first | (simp only [World.size_alloc, World.size_setCell, World.size_drew]; done) | ((try simp only [World.size_alloc, World.size_setCell, World.size_drew]); omega)) | with_reducible apply Box.alloc | ((with_reducible apply Box.far); rotate_left; (simp only; omega)) | with_reducible apply Box.drew | ((with_reducible apply Box.via); (first | exact hw' | exact hb1 | exact hb2 | exact hb3 | exact hb4 | exact hb5 | exact hb6 | exact hb7 | exact hb8 | exact hb9 | exact hb0 | exact hw | exact hb); rotate_left; ((try simp only [World.size_alloc, World.size_setCell, World.size_drew]); omega)) | (simp only [List.set_cons_succ, List.set_cons_zero]; done) | ((try simp only [List.set_cons_succ, List.set_cons_zero]); with_reducible exact rfl)))
  have s1 : SlM W0 (fun x => False ∨ x = w.heap.size) (some ⟨w.heap.size, 0, none⟩) 2 2 oneC.members :=
    Sl.ofBox x0 (Cells.cons (cs := [.int .i64 0, .int .i64 1, .bool true]) ⟨rfl, ⟨by decide, by decide⟩, ⟨by decide, by decide⟩⟩ (Cells.cons (cs := [.int .i64 1, .int .i64 1, .bool true]) ⟨rfl, ⟨by decide, by decide⟩, ⟨by decide, by decide⟩⟩ .nil)) rfl (by decide) (by decide)
  have s2 : SlM W0 (fun x => False ∨ x = w.heap.size + 1 + 1) (some ⟨w.heap.size + 1 + 1, 0, none⟩) 3 3 twoC.members :=
    Sl.ofBox x2 (Cells.cons (cs := [.int .i64 0, .int .i64 1, .bool true]) ⟨rfl, ⟨by decide, by decide⟩, ⟨by decide, by decide⟩⟩ (Cells.cons (cs := [.int .i64 1, .int .i64 1, .bool true]) ⟨rfl, ⟨by decide, by decide⟩, ⟨by decide, by decide⟩⟩ (Cells.cons (cs := [.int .i64 2, .int .i64 2, .bool false]) ⟨rfl, ⟨by decide, by decide⟩, ⟨by decide, by decide⟩⟩ .nil))) rfl (by decide) (by decide)
  have bx1 := fun i => x1.cell i
  have bx3 := fun i => x3.cell i
  have l3 := x3.lt
  have l1 := x1.lt
  clear hW0
  refine (over_is zeroBook oneC 0 0 _ o1 none _ 0 0 2 2 _ W0 s1 (by decide)).mono ?_
  rintro e w1 ⟨A1, n1, k1, rfl, hv1, hb1⟩
  obtain ⟨cw1, fw1⟩ := bcell hb1; have sw1 := Below.size hb1; (try simp only [World.size_alloc, World.size_setCell, World.size_drew] at cw1 fw1 sw1)
  have ltww1 : w.heap.size < w1.heap.size := (by omega)
  have leww1 : w.heap.size ≤ w1.heap.size := (by omega)
  have ltww11 : w.heap.size + 1 < w1.heap.size := (by omega)
  have leww11 : w.heap.size + 1 ≤ w1.heap.size := (by omega)
  have ltww12 : w.heap.size + 1 + 1 < w1.heap.size := (by omega)
  have leww12 : w.heap.size + 1 + 1 ≤ w1.heap.size := (by omega)
  have ltww13 : w.heap.size + 1 + 1 + 1 < w1.heap.size := (by omega)
  have leww13 : w.heap.size + 1 + 1 + 1 ≤ w1.heap.size := (by omega)
  go_wp2_with fail
  refine (over_is ⟨oneC, 1, true, 0⟩ twoC 0 7 _ o2 A1 _ n1 k1 3 3 _ _ (s2.below (by decide) (by (repeat' (first | with_reducible exact Below.refl _ _ | ((with_reducible refine Below.alloc ?_ ?_ _); rotate_left; first | omega | (simp <;> omega)) | ((with_reducible refine Below.setCell ?_ ?_ _); rotate_left; first | (simp only; omega) | (simp <;> omega)) | with_reducible refine Below.drew ?_ | with_reducible refine below_drewN ?_ _ | ((with_reducible apply Bw.out); (first | exact hw' | exact hb1 | exact hb2 | exact hb3 | exact hb4 | exact hb5 | exact hb6 | exact hb7 | exact hb8 | exact hb9 | exact hb0 | exact hw | exact hb); rotate_left; first | omega | (simp <;> omega)) | assumption)))) (by decide)).mono ?_
  rintro e w2 ⟨A2, n2, k2, rfl, hv2, hb2⟩
  obtain ⟨cw2, fw2⟩ := bcell hb2; have sw2 := Below.size hb2; (try simp only [World.size_alloc, World.size_setCell, World.size_drew] at cw2 fw2 sw2)
  have ltww2 : w.heap.size < w2.heap.size := (by omega)
  have leww2 : w.heap.size ≤ w2.heap.size := (by omega)
  have ltww21 : w.heap.size + 1 < w2.heap.size := (by omega)
  have leww21 : w.heap.size + 1 ≤ w2.heap.size := (by omega)
  have ltww22 : w.heap.size + 1 + 1 < w2.heap.size := (by omega)
  have leww22 : w.heap.size + 1 + 1 ≤ w2.heap.size := (by omega)
  have ltww23 : w.heap.size + 1 + 1 + 1 < w2.heap.size := (by omega)
  have leww23 : w.heap.size + 1 + 1 + 1 ≤ w2.heap.size := (by omega)
  go_wp2_with fail
  refine (over_is zeroBook twoC 2 0 _ o3 none _ 0 0 3 3 _ _ (s2.below (by decide) (by (repeat' (first | with_reducible exact Below.refl _ _ | ((with_reducible refine Below.alloc ?_ ?_ _); rotate_left; first | omega | (simp <;> omega)) | ((with_reducible refine Below.setCell ?_ ?_ _); rotate_left; first | (simp only; omega) | (simp <;> omega)) | with_reducible refine Below.drew ?_ | with_reducible refine below_drewN ?_ _ | ((with_reducible apply Bw.out); (first | exact hw' | exact hb1 | exact hb2 | exact hb3 | exact hb4 | exact hb5 | exact hb6 | exact hb7 | exact hb8 | exact hb9 | exact hb0 | exact hw | exact hb); rotate_left; first | omega | (simp <;> omega)) | assumption)))) (by decide)).mono ?_
  rintro e w3 ⟨A3, n3, k3, rfl, hv3, hb3⟩
  obtain ⟨cw3, fw3⟩ := bcell hb3; have sw3 := Below.size hb3; (try simp only [World.size_alloc, World.size_setCell, World.size_drew] at cw3 fw3 sw3)
  have ltww3 : w.heap.size < w3.heap.size := (by omega)
  have leww3 : w.heap.size ≤ w3.heap.size := (by omega)
  have ltww31 : w.heap.size + 1 < w3.heap.size := (by omega)
  have leww31 : w.heap.size + 1 ≤ w3.heap.size := (by omega)
  have ltww32 : w.heap.size + 1 + 1 < w3.heap.size := (by omega)
  have leww32 : w.heap.size + 1 + 1 ≤ w3.heap.size := (by omega)
  have ltww33 : w.heap.size + 1 + 1 + 1 < w3.heap.size := (by omega)
  have leww33 : w.heap.size + 1 + 1 + 1 ≤ w3.heap.size := (by omega)
  have ltw2w3 : w2.heap.size < w3.heap.size := (by omega)
  have lew2w3 : w2.heap.size ≤ w3.heap.size := (by omega)
  go_wp2_with fail
  refine (over_is ⟨twoC, 1, true, 7⟩ oneC 0 7 _ o4 A2 _ n2 k2 2 2 _ _ (s1.below (by decide) (by (repeat' (first | with_reducible exact Below.refl _ _ | ((with_reducible refine Below.alloc ?_ ?_ _); rotate_left; first | omega | (simp <;> omega)) | ((with_reducible refine Below.setCell ?_ ?_ _); rotate_left; first | (simp only; omega) | (simp <;> omega)) | with_reducible refine Below.drew ?_ | with_reducible refine below_drewN ?_ _ | ((with_reducible apply Bw.out); (first | exact hw' | exact hb1 | exact hb2 | exact hb3 | exact hb4 | exact hb5 | exact hb6 | exact hb7 | exact hb8 | exact hb9 | exact hb0 | exact hw | exact hb); rotate_left; first | omega | (simp <;> omega)) | assumption)))) (by decide)).mono ?_
  rintro e w4 ⟨A4, n4, k4, rfl, hv4, hb4⟩
  obtain ⟨cw4, fw4⟩ := bcell hb4; have sw4 := Below.size hb4; (try simp only [World.size_alloc, World.size_setCell, World.size_drew] at cw4 fw4 sw4)
  have ltw2w4 : w2.heap.size < w4.heap.size := (by omega)
  have lew2w4 : w2.heap.size ≤ w4.heap.size := (by omega)
  have ltw3w4 : w3.heap.size < w4.heap.size := (by omega)
  have lew3w4 : w3.heap.size ≤ w4.heap.size := (by omega)
  go_wp2_with fail
  refine (fills_any _ _ _ _ _ _ _ _ _ _).mono ?_
  rintro e w5 ⟨rfl, hb5⟩
  obtain ⟨cw5, fw5⟩ := bcell hb5; have sw5 := Below.size hb5; (try simp only [World.size_alloc, World.size_setCell, World.size_drew] at cw5 fw5 sw5)
  have ltw2w5 : w2.heap.size < w5.heap.size := (by omega)
  have lew2w5 : w2.heap.size ≤ w5.heap.size := (by omega)
  have ltw3w5 : w3.heap.size < w5.heap.size := (by omega)
  have lew3w5 : w3.heap.size ≤ w5.heap.size := (by omega)
  go_wp2_with fail
  refine (fills_any _ _ _ _ _ _ _ _ _ _).mono ?_
  rintro e w6 ⟨rfl, hb6⟩
  obtain ⟨cw6, fw6⟩ := bcell hb6; have sw6 := Below.size hb6; (try simp only [World.size_alloc, World.size_setCell, World.size_drew] at cw6 fw6 sw6)
  have ltw2w6 : w2.heap.size < w6.heap.size := (by omega)
  have lew2w6 : w2.heap.size ≤ w6.heap.size := (by omega)
  have ltw3w6 : w3.heap.size < w6.heap.size := (by omega)
  have lew3w6 : w3.heap.size ≤ w6.heap.size := (by omega)
  go_wp2_with fail
  refine (fills_any _ _ _ _ _ _ _ _ _ _).mono ?_
  rintro e w7 ⟨rfl, hb7⟩
  obtain ⟨cw7, fw7⟩ := bcell hb7; have sw7 := Below.size hb7; (try simp only [World.size_alloc, World.size_setCell, World.size_drew] at cw7 fw7 sw7)
  have ltw2w7 : w2.heap.size < w7.heap.size := (by omega)
  have lew2w7 : w2.heap.size ≤ w7.heap.size := (by omega)
  have ltw3w7 : w3.heap.size < w7.heap.size := (by omega)
  have lew3w7 : w3.heap.size ≤ w7.heap.size := (by omega)
  go_wp2_with fail
  go_ret
  exact ⟨rfl, by (repeat' (first | with_reducible exact Below.refl _ _ | ((with_reducible refine Below.alloc ?_ ?_ _); rotate_left; first | omega | (simp <;> omega)) | ((with_reducible refine Below.setCell ?_ ?_ _); rotate_left; first | (simp only; omega) | (simp <;> omega)) | with_reducible refine Below.drew ?_ | with_reducible refine below_drewN ?_ _ | ((with_reducible apply Bw.out); (first | exact hw' | exact hb1 | exact hb2 | exact hb3 | exact hb4 | exact hb5 | exact hb6 | exact hb7 | exact hb8 | exact hb9 | exact hb0 | exact hw | exact hb); rotate_left; first | omega | (simp <;> omega)) | assumption))⟩
end Go.Proofs.Ytkdbedbefojieaa
