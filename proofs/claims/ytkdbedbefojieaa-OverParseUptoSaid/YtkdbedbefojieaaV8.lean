/-
  The document's reader reads what the program's reads.
-/
import Derived.Test.YtkdbedbefojieaaV7
namespace Go.Proofs.Ytkdbedbefojieaa
set_option linter.unusedVariables false
set_option linter.unusedSimpArgs false
open Go.RowKit
set_option maxRecDepth 100000
abbrev St := Int × List UInt8
def newF (b : List UInt8) : Rf := if 65536 < b.length then ⟨[], 0, 3⟩ else ⟨b, 0, 0⟩
def byteF (s : Rf) : UInt8 × Rf := (if (someF 1 s).1.2 then (someF 1 s).1.1.headD 0 else 0, (someF 1 s).2)
def intF (s : Rf) : Int × Rf := (if (someF 8 s).1.2 then toI (beN (someF 8 s).1.1) else 0, (someF 8 s).2)
def Rf.spoil (s : Rf) : Rf := ⟨s.b, s.at_, 40⟩
def flagF (s : Rf) : Bool × Rf := ((byteF s).1 == 1, if 1 < (byteF s).1.toNat then (byteF s).2.spoil else (byteF s).2)
def bytesF (s : Rf) : List UInt8 × Rf :=
  if (someF 4 s).1.2 then (if 65536 < beN (someF 4 s).1.1 then ([], (someF 4 s).2.spoil) else ((someF (beN (someF 4 s).1.1) (someF 4 s).2).1.1, (someF (beN (someF 4 s).1.1) (someF 4 s).2).2)) else ([], (someF 4 s).2)
def Rf.left (s : Rf) : Nat := s.b.length - s.at_
def countF (m : Int) (s : Rf) : Int × Rf :=
  if (intF s).2.bad = 0 then (if (intF s).1 < 0 ∨ m < (intF s).1 ∨ ((intF s).2.left : Int) < (intF s).1 then (0, (intF s).2.spoil) else intF s) else (0, (intF s).2)
def endF (s : Rf) : Int := if s.bad = 0 ∧ s.at_ < s.b.length then 40 else s.bad
theorem someF_len {n : Nat} {s : Rf} (hs : s.ok) (h : (someF n s).1.2 = true) : (someF n s).1.1.length = n := by
  unfold someF at h ⊢
  split
  · rename_i h1; simp [h1] at h
  · split
    · rename_i h1 h2; simp [h1, h2] at h
    · simp; omega
theorem someF_nil {n : Nat} {s : Rf} (h : (someF n s).1.2 = false) : (someF n s).1.1 = [] := by
  unfold someF at h ⊢
  split
  · rfl
  · split
    · rfl
    · rename_i h1 h2; simp [h1, h2] at h
theorem someF_ok {n : Nat} {s : Rf} (hs : s.ok) : (someF n s).2.ok := by
  unfold someF
  split
  · exact hs
  · split
    · exact hs
    · exact ⟨by have := hs.1; dsimp only; omega, hs.2⟩
theorem someF_st {n : Nat} {s : Rf} (hs : s.ok) : (someF n s).2.st = (if (someF n s).1.2 then (0, s.st.2.drop n) else ((someF n s).2.bad, [])) ∧ ((someF n s).1.2 = true → s.bad = 0 ∧ (someF n s).2.bad = 0 ∧ (someF n s).1.1 = s.st.2.take n ∧ n ≤ s.st.2.length) ∧ ((someF n s).1.2 = false → ((s.bad ≠ 0 ∧ (someF n s).2 = s) ∨ (s.bad = 0 ∧ (someF n s).2.bad = 40 ∧ s.st.2.length < n))) := by
  obtain ⟨b, p, e⟩ := s
  by_cases he : e = 0
  · subst he
    by_cases hl : b.length - p < n
    · simp [someF, hl, Rf.st]
    · simp [someF, hl, Rf.st]
      omega
  · simp [someF, he, Rf.st]
theorem take_some {α : Type} (z : α) (g : List UInt8 → α × Bool) (n : Nat) {s : Rf} (hs : s.ok) {n' : Int} (hn' : n' = n) :
    takeS z g n' s.st = if (someF n s).1.2 then (if (g (someF n s).1.1).2 = true then ((g (someF n s).1.1).1, (someF n s).2.st) else (z, (40, []))) else (z, (someF n s).2.st) := by
  subst hn'
  obtain ⟨h1, h2, h3⟩ := someF_st (n := n) hs
  cases h : (someF n s).1.2 with
  | true =>
    obtain ⟨a1, a2, a3, a4⟩ := h2 h
    rw [h] at h1
    rw [h1]
    have e1 : s.st.1 = 0 := a1
    simp only [takeS, e1, if_true]
    rw [if_neg (by simp), if_neg (by omega), Int.toNat_natCast, a3]
  | false =>
    rw [h] at h1
    rw [h1]
    rcases h3 h with ⟨a1, a2⟩ | ⟨a1, a2, a3⟩
    · rw [a2]
      simp [takeS, Rf.st, a1]
    · have e1 : s.st.1 = 0 := a1
      simp only [takeS, e1]
      rw [if_neg (by simp), if_pos (by omega), a2]
      simp
def Sim {α : Type} (f : Rf → α × Rf) (r : St → α × St) : Prop := ∀ s : Rf, s.ok → (f s).1 = (r s.st).1 ∧ (f s).2.st = (r s.st).2 ∧ (f s).2.ok
theorem spoil_st (s : Rf) : s.spoil.st = (40, []) := by simp [Rf.spoil, Rf.st]
theorem sim_byte : Sim byteF byteR := fun s hs => by
  have h := take_some (0 : UInt8) byteG 1 hs (n' := 1) rfl
  refine ⟨?_, ?_, someF_ok hs⟩ <;> (unfold byteF byteR; rw [h]) <;> (cases hb : (someF 1 s).1.2 <;> simp [byteG, hb])
theorem sim_int : Sim intF intR := fun s hs => by
  have h := take_some (0 : Int) intG 8 hs (n' := 8) rfl
  refine ⟨?_, ?_, someF_ok hs⟩ <;> (unfold intF intR; rw [h]) <;> (cases hb : (someF 8 s).1.2 <;> simp [intG, hb])
theorem sim_flag : Sim flagF flagR := fun s hs => by
  have h := take_some false flagG 1 hs (n' := 1) rfl
  refine ⟨?_, ?_, ?_⟩
  · unfold flagF flagR byteF
    rw [h]
    cases hb : (someF 1 s).1.2
    · simp
    · by_cases h1 : (someF 1 s).1.1.headD 0 ≤ 1
      · simp only [flagG, h1, decide_true, if_true]
      · simp only [flagG, h1]
        simp
        rintro h2
        simp [h2] at h1
  · unfold flagF flagR byteF
    rw [h]
    cases hb : (someF 1 s).1.2
    · simp
    · by_cases h1 : (someF 1 s).1.1.headD 0 ≤ 1
      · have h2 : ¬ 1 < ((someF 1 s).1.1.headD 0).toNat := by rw [UInt8.le_iff_toNat_le] at h1; simpa using h1
        simp only [flagG, h1]
        simp [-List.headD_eq_head?_getD, h2]
      · have h2 : 1 < ((someF 1 s).1.1.headD 0).toNat := by rw [UInt8.le_iff_toNat_le] at h1; simp at h1 ⊢; omega
        simp only [flagG, h1]
        simp [-List.headD_eq_head?_getD, h2, spoil_st]
  · unfold flagF
    dsimp only
    split
    · exact someF_ok (n := 1) hs
    · exact someF_ok (n := 1) hs
theorem sim_bytes : Sim bytesF bytesR := fun s hs => by
  have h := take_some (0 : Int) lenG 4 hs (n' := 4) rfl
  have hok := someF_ok (n := 4) hs
  have hl : lenR s.st = if (someF 4 s).1.2 then (if 65536 < beN (someF 4 s).1.1 then ((0 : Int), ((40 : Int), ([] : List UInt8))) else ((beN (someF 4 s).1.1 : Int), (someF 4 s).2.st)) else (0, (someF 4 s).2.st) := by
    unfold lenR
    rw [h]
    cases hb : (someF 4 s).1.2
    · simp
    · by_cases hn : 65536 < beN (someF 4 s).1.1
      · have h2 : ¬ beN (someF 4 s).1.1 ≤ 65536 := by omega
        simp [lenG, hn, h2]
      · have h2 : beN (someF 4 s).1.1 ≤ 65536 := by omega
        simp [lenG, hn, h2]
  unfold bytesF bytesR
  rw [hl]
  cases hb : (someF 4 s).1.2
  · obtain ⟨h1, h2, h3⟩ := someF_st (n := 4) hs
    rw [hb] at h1
    simp only [Bool.false_eq_true, if_false]
    have hbad : (someF 4 s).2.bad ≠ 0 := by
      rcases h3 hb with ⟨a1, a2⟩ | ⟨a1, a2, a3⟩
      · rw [a2]; exact a1
      · rw [a2]; decide
    have e : takeS ([] : List UInt8) bytesG 0 (someF 4 s).2.st = ([], (someF 4 s).2.st) := by simp [takeS, Rf.st, hbad]
    rw [e]
    exact ⟨rfl, rfl, hok⟩
  · by_cases hn : 65536 < beN (someF 4 s).1.1
    · simp only [if_true, if_pos hn]
      refine ⟨?_, ?_, hok⟩
      · simp [takeS]
      · simp [takeS, spoil_st]
    · simp only [if_true, if_neg hn]
      have h4 := take_some ([] : List UInt8) bytesG (beN (someF 4 s).1.1) hok rfl
      rw [h4]
      refine ⟨?_, ?_, someF_ok hok⟩
      · cases hb2 : (someF (beN (someF 4 s).1.1) (someF 4 s).2).1.2
        · simp [bytesG, someF_nil hb2]
        · simp [bytesG]
      · cases hb2 : (someF (beN (someF 4 s).1.1) (someF 4 s).2).1.2 <;> simp [bytesG]
theorem st_left {s : Rf} (hs : s.ok) (h : s.bad = 0) : s.st.2.length = s.left := by simp [Rf.st, h, Rf.left]
theorem sim_count (m : Int) : Sim (countF m) (countR m) := fun s hs => by
  have h := take_some (0 : Int) (countG m (leftR s.st - 8)) 8 hs (n' := 8) rfl
  have hok := someF_ok (n := 8) hs
  obtain ⟨h1, h2, h3⟩ := someF_st (n := 8) hs
  unfold countF countR
  rw [h]
  cases hb : (someF 8 s).1.2
  · have hbad : (intF s).2.bad ≠ 0 := by
      show (someF 8 s).2.bad ≠ 0
      rcases h3 hb with ⟨a1, a2⟩ | ⟨a1, a2, a3⟩
      · rw [a2]; exact a1
      · rw [a2]; decide
    simp only [Bool.false_eq_true, if_false, if_neg hbad]
    refine ⟨?_, ?_, ?_⟩ <;> first | trivial | rfl | exact hok
  · obtain ⟨a1, a2, a3, a4⟩ := h2 hb
    have hbad : (intF s).2.bad = 0 := a2
    have e1 : (intF s).1 = toI (beN (someF 8 s).1.1) := by simp [intF, hb]
    have e2 : leftR s.st - 8 = ((intF s).2.left : Int) := by
      have g1 := st_left hs a1
      have g2 := st_left (s := (someF 8 s).2) hok a2
      rw [hb] at h1
      rw [h1] at g2
      simp at g2
      show leftR s.st - 8 = ((someF 8 s).2.left : Int)
      rw [leftR, show s.st.1 = 0 from a1, if_pos rfl]
      omega
    rw [e2]
    simp only [if_true, if_pos hbad]
    by_cases hc : (intF s).1 < 0 ∨ m < (intF s).1 ∨ ((intF s).2.left : Int) < (intF s).1
    · have hg : (countG m ((intF s).2.left : Int) (someF 8 s).1.1).2 = false := by
        cases hx : (countG m ((intF s).2.left : Int) (someF 8 s).1.1).2 with
        | false => rfl
        | true => simp [countG] at hx; rw [e1] at hc; omega
      rw [if_pos hc, hg]
      exact ⟨rfl, spoil_st _, hok⟩
    · have hg : (countG m ((intF s).2.left : Int) (someF 8 s).1.1).2 = true := by
        rw [e1] at hc
        simp [countG]
        omega
      rw [if_neg hc, hg]
      exact ⟨e1, rfl, hok⟩
theorem sim_end (s : Rf) (hs : s.ok) : endF s = endR s.st := by
  obtain ⟨b, p, e⟩ := s
  obtain ⟨h1, h2⟩ := hs
  dsimp only at h1 h2
  by_cases he : e = 0
  · subst he
    simp [endF, endR, Rf.st]
    by_cases hp : p < b.length
    · rw [if_pos hp, if_neg (by omega)]
    · rw [if_neg hp, if_pos (by omega)]
  · simp [endF, endR, Rf.st, he]
theorem sim_new (b : List UInt8) (hb : b.length ≤ 100000000) : (newF b).st = newR b ∧ (newF b).ok := by
  unfold newF newR
  split
  · exact ⟨by simp [Rf.st], by simp [Rf.ok]⟩
  · exact ⟨by simp [Rf.st], by simp [Rf.ok]; omega⟩
end Go.Proofs.Ytkdbedbefojieaa
