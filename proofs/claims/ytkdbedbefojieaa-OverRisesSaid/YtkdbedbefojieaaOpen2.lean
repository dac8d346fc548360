/-
  HOW THE LAWS' ARGUMENTS OPEN, at this program's types.
-/
import Derived.Test.YtkdbedbefojieaaOpen
import Derived.Test.YtkdbedbefojieaaOver2
namespace Go.Proofs.Ytkdbedbefojieaa
set_option linter.unusedVariables false
set_option linter.unusedSimpArgs false
open Go.RowKit Go.ChangeShapes Go.WideShapes Go.ChangeAt Go.Deep
set_option maxRecDepth 100000

theorem laidOut : laidOutB Try.prog = true := by kernel_rfl
theorem own_knob : ownKnob Try.prog.godebug = none := by kernel_rfl
theorem c_int : Try.prog.cellsOf 3 = 1 := by kernel_rfl
theorem c_bool : Try.prog.cellsOf 4 = 1 := by kernel_rfl
theorem c_member : Try.prog.cellsOf 34 = 3 := by kernel_rfl
theorem c_config : Try.prog.cellsOf 24 = 2 := by kernel_rfl
theorem c_book : Try.prog.cellsOf 26 = 5 := by kernel_rfl
theorem c_members : Try.prog.cellsOf 22 = 1 := by kernel_rfl
theorem o_int : Opens Try.prog 3 (tI .i64) := opens_int Try.underlying3
theorem o_bool : Opens Try.prog 4 tB := opens_bool Try.underlying4
theorem I64_of {x : Int} (h : (Lit.int .i64 x).wf = true) : I64 x := wf_i64 h

theorem o_member : Opens Try.prog 34 tMember := by
  intro H enc w base spare held fuel cs x h
  have hl := trod_len Try.underlying34 h
  obtain ⟨_, _, h0⟩ := trod_field Try.underlying34 h 0 rfl
  obtain ⟨_, _, h1⟩ := trod_field Try.underlying34 h 1 rfl
  obtain ⟨_, _, h2⟩ := trod_field Try.underlying34 h 2 rfl
  rw [c_member] at hl
  obtain ⟨a0, e0, w0⟩ := o_int h0
  obtain ⟨a1, e1, w1⟩ := o_int h1
  obtain ⟨a2, e2⟩ := o_bool h2
  match cs, hl with
  | [c0, c1, c2], _ =>
    simp [c_int, c_bool] at e0 e1 e2
    subst e0 e1
    have e2' : c2 = .bool a2 := by simpa [tB] using e2
    subst e2'
    exact ⟨⟨a0, a1, a2⟩, rfl, I64_of w0, I64_of w1⟩
theorem o_members : Opens Try.prog 22 (tSl tMember (by decide)) := opens_slice _ Try.underlying22 c_member o_member
theorem o_config : Opens Try.prog 24 tConfig := by
  intro H enc w base spare held fuel cs x h
  have hl := trod_len Try.underlying24 h
  obtain ⟨_, _, h0⟩ := trod_field Try.underlying24 h 0 rfl
  obtain ⟨_, _, h1⟩ := trod_field Try.underlying24 h 1 rfl
  rw [c_config] at hl
  obtain ⟨a0, e0, w0⟩ := o_int h0
  obtain ⟨l, A, n, c, e1, hs⟩ := o_members h1
  match cs, hl with
  | [c0, c1], _ =>
    simp [c_int, c_members] at e0 e1
    subst e0 e1
    exact ⟨⟨a0, l⟩, A, n, c, rfl, I64_of w0, hs⟩

def Book.ok (x : Book) : Prop := I64 x.cfg.epoch ∧ I64 x.since ∧ I64 x.upto
def tBook : Ty Book where
  size := 5
  rd w F cs x := ∃ A n c, cs = [.int .i64 x.cfg.epoch, .slice A n c, .int .i64 x.since, .bool x.whole, .int .i64 x.upto] ∧ x.ok ∧ SlM w F A n c x.cfg.members
  len := by rintro _ _ _ _ ⟨A, n, c, rfl, _⟩; rfl
  one := by rintro _ _ _ _ ⟨A, n, c, rfl, _⟩ u hu; simp at hu; rcases hu with rfl | rfl | rfl | rfl | rfl <;> rfl
  keep := by rintro _ _ _ _ _ ⟨A, n, c, rfl, ho, h⟩ hk; exact ⟨A, n, c, rfl, ho, h.keep hk⟩
  mono := by rintro _ _ _ _ _ ⟨A, n, c, rfl, ho, h⟩ hk; exact ⟨A, n, c, rfl, ho, h.mono hk⟩
  lt := by rintro _ _ _ _ ⟨A, n, c, rfl, ho, h⟩; exact ⟨A, n, c, rfl, ho, h.lt (by decide)⟩
theorem o_book : Opens Try.prog 26 tBook := by
  intro H enc w base spare held fuel cs x h
  have hl := trod_len Try.underlying26 h
  obtain ⟨_, _, h0⟩ := trod_field Try.underlying26 h 0 rfl
  obtain ⟨_, _, h1⟩ := trod_field Try.underlying26 h 1 rfl
  obtain ⟨_, _, h2⟩ := trod_field Try.underlying26 h 2 rfl
  obtain ⟨_, _, h3⟩ := trod_field Try.underlying26 h 3 rfl
  rw [c_book] at hl
  obtain ⟨x0, A, n, c, e0, w0, hs⟩ := o_config h0
  obtain ⟨a1, e1, w1⟩ := o_int h1
  obtain ⟨a2, e2⟩ := o_bool h2
  obtain ⟨a3, e3, w3⟩ := o_int h3
  match cs, hl with
  | [c0, c1, c2, c3, c4], _ =>
    simp [c_int, c_config, c_bool] at e0 e1 e2 e3
    obtain ⟨rfl, rfl⟩ := e0
    subst e1 e3
    have e2' : c3 = .bool a2 := by simpa [tB] using e2
    subst e2'
    exact ⟨⟨x0, a1, a2, a3⟩, A, n, c, rfl, ⟨w0, I64_of w1, I64_of w3⟩, hs⟩
end Go.Proofs.Ytkdbedbefojieaa
