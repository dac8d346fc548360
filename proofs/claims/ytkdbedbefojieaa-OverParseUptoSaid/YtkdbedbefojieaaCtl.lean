/-
  THE COURSE OF A BODY by abstract values: sequences, tests, blocks, loops; a function's beginning and its end. Nothing here names a function of the program.
-/
import Derived.Test.YtkdbedbefojieaaAc
import Derived.Control
namespace Go.Proofs.Ytkdbedbefojieaa
set_option linter.unusedVariables false
set_option linter.unusedSimpArgs false
open Go.RowKit
set_option maxRecDepth 100000

def CP (P : Program) (X : Cx) (c : Code) (Q : Exit → AS → Prop) (s : AS) : Prop := ∀ a w, Sat X s a w → c.wp P (lift X Q) a w
def thenQ (K : AS → Prop) (Q : Exit → AS → Prop) : Exit → AS → Prop
  | .normal, s => K s
  | e, s => Q e s
def inB (id : Nat) (Q : Exit → AS → Prop) : Exit → AS → Prop
  | .exit id', s => if id' = id then Q .normal s else Q (.exit id') s
  | e, s => Q e s

section
variable {P : Program} {X : Cx} {s : AS} {Q : Exit → AS → Prop}
theorem CP.mono {c : Code} {Q' : Exit → AS → Prop} (h : CP P X c Q s) (hq : ∀ e s, Q e s → Q' e s) : CP P X c Q' s :=
  fun a w hs => wp_mono (h a w hs) fun e a w ⟨s', h1, h2⟩ => ⟨s', hq e s' h1, h2⟩
theorem cp_seq {x y : Code} (h : CP P X x (thenQ (CP P X y Q) Q) s) : CP P X (.seq x y) Q s := fun a w hs =>
  wp_seq (wp_mono (h a w hs) fun e a' w' ⟨s', h1, h2⟩ => by
    cases e with
    | normal => exact h1 a' w' h2
    | _ => exact ⟨s', h1, h2⟩)
theorem cp_region {id : Nat} {l : List Oper} (h : AP P X l.toArray Q l s) : CP P X (.region id l.toArray false) Q s := fun a w hs => wp_region_lit (h a w hs)
/-- a region, what follows it and its operations' whole behind letters -/
theorem cp_reg {id : Nat} {l : List Oper} {y : Code} (h : ∀ ops Q', (∀ s', CP P X y Q s' → Q' .normal s') → AP P X ops Q' l s) : CP P X (.seq (.region id l.toArray false) y) Q s :=
  cp_seq (cp_region (h l.toArray (thenQ (CP P X y Q) Q) fun _ h => h))
theorem cp_regG {id : Nat} {l : List Oper} {y : Code} (h : ∀ Q', (∀ s', CP P X y Q s' → Q' .normal s') → AP P X l.toArray Q' l s) : CP P X (.seq (.region id l.toArray false) y) Q s :=
  cp_seq (cp_region (h (thenQ (CP P X y Q) Q) fun _ h => h))
theorem cp_cond {c : Operand} {x y : Code} {t : Bool} (hc : aev s c = .sc (.bool t)) (h1 : t = true → CP P X x Q s) (h2 : t = false → CP P X y Q s) : CP P X (.cond c x y) Q s := fun a w hs => by
  obtain ⟨X', φ, κ, f, hX, h⟩ := hs
  refine wp_cond (t := t) (h.evc hc) ?_
  cases t with
  | true => exact h1 rfl a w ⟨X', φ, κ, f, hX, h⟩
  | false => exact h2 rfl a w ⟨X', φ, κ, f, hX, h⟩
theorem cp_condT {c : Operand} {x y : Code} (hc : aev s c = .sc (.bool true)) (h : CP P X x Q s) : CP P X (.cond c x y) Q s := cp_cond hc (fun _ => h) fun h => by cases h
theorem cp_condF {c : Operand} {x y : Code} (hc : aev s c = .sc (.bool false)) (h : CP P X y Q s) : CP P X (.cond c x y) Q s := cp_cond hc (fun h => by cases h) fun _ => h
theorem inB_hit {id : Nat} (h : Q .normal s) : inB id Q (.exit id) s := by simp only [inB, if_true]; exact h
theorem inB_miss {id id' : Nat} (hn : Nat.beq id' id = false) (h : Q (.exit id') s) : inB id Q (.exit id') s := by
  have : ¬ id' = id := Nat.ne_of_beq_eq_false hn
  simp only [inB, this, if_false]; exact h
theorem inB_n {id : Nat} (h : Q .normal s) : inB id Q .normal s := h
theorem inB_r {id : Nat} (h : Q .ret s) : inB id Q .ret s := h
theorem thenQ_n {K : AS → Prop} (h : K s) : thenQ K Q .normal s := h
theorem thenQ_r {K : AS → Prop} (h : Q .ret s) : thenQ K Q .ret s := h
theorem thenQ_e {K : AS → Prop} {id : Nat} (h : Q (.exit id) s) : thenQ K Q (.exit id) s := h
theorem cp_block {id : Nat} {c : Code} (h : CP P X c (inB id Q) s) : CP P X (.block id c) Q s := fun a w hs =>
  wp_block (wp_mono (h a w hs) fun e a' w' ⟨s', h1, h2⟩ => by
    cases e with
    | exit id' =>
      simp only [inB] at h1
      simp only [Exit.inBlock]
      split
      · rename_i hi; rw [if_pos hi] at h1; exact ⟨s', h1, h2⟩
      · rename_i hi; rw [if_neg hi] at h1; exact ⟨s', h1, h2⟩
    | _ => exact ⟨s', h1, h2⟩)
theorem cp_exit {id : Nat} (h : Q (.exit id) s) : CP P X (.exit id) Q s := fun _ _ hs => wp_exit ⟨s, h, hs⟩
theorem cp_ret (h : Q .ret s) : CP P X .ret Q s := fun _ _ hs => wp_ret ⟨s, h, hs⟩
theorem cp_skip (h : Q .normal s) : CP P X .skip Q s := fun _ _ hs => wp_skip ⟨s, h, hs⟩

theorem least {p : Nat → Prop} : ∀ n, p n → ∃ m, p m ∧ ∀ k, k < m → ¬ p k := by
  intro n
  induction n using Nat.strongRecOn with
  | _ n ih =>
    intro hn
    by_cases h : ∃ k, k < n ∧ p k
    · obtain ⟨k, hk, hp⟩ := h; exact ih k hk hp
    · exact ⟨n, hn, fun k hk hp => h ⟨k, hk, hp⟩⟩
open Classical in
noncomputable def lst (p : Nat → Prop) : Nat := if h : ∃ m, p m ∧ ∀ k, k < m → ¬ p k then Classical.choose h else 0
theorem lst_spec {p : Nat → Prop} {n : Nat} (h : p n) : p (lst p) ∧ lst p ≤ n := by
  have hl := least n h
  unfold lst
  rw [dif_pos hl]
  have := Classical.choose_spec hl
  exact ⟨this.1, Nat.le_of_not_lt fun hlt => this.2 n hlt h⟩
theorem cp_loop {c : Code} (I : Nat → AS → Prop) (n : Nat) (h0 : I n s) (round : ∀ n s, I n s → CP P X c (thenQ (fun s' => ∃ m, m < n ∧ I m s') Q) s) : CP P X (.loop c) Q s := fun a w hs => by
  refine wp_loop (fun a w => ∃ n s, I n s ∧ Sat X s a w) (fun a w => lst fun n => ∃ s, I n s ∧ Sat X s a w) ⟨n, s, h0, hs⟩ ?_
  rintro a w ⟨n, s, hI, hs⟩
  obtain ⟨⟨s1, h1, h2⟩, _⟩ := lst_spec (p := fun n => ∃ s, I n s ∧ Sat X s a w) ⟨s, hI, hs⟩
  refine wp_mono (round _ s1 h1 a w h2) ?_
  rintro e a' w' ⟨s', h3, h4⟩
  cases e with
  | normal =>
    obtain ⟨m, hm, hI'⟩ := h3
    refine ⟨⟨m, s', hI', h4⟩, ?_⟩
    have := (lst_spec (p := fun n => ∃ s, I n s ∧ Sat X s a' w') ⟨s', hI', h4⟩).2
    exact Nat.lt_of_le_of_lt this hm
  | _ => exact ⟨s', h3, h4⟩

/-! the end -/
inductive Res1 (s : AS) : ResultVar → AV → Prop
  | tmp {t av} : s.t.getD t .de = av → Res1 s (.tmp t) av
  | row {t T T' b u l i} : s.t.getD t .de = .bp b u 0 → s.b[b]? = some ⟨u, .c T' l⟩ → tt[T]? = some i → (match i.kd with | .st _ => true | .ar _ _ => true | _ => false) = true → l.length = i.size → Res1 s (.cell t T) (.ag l)
  | flat {t T T' b u l i av} : s.t.getD t .de = .bp b u 0 → s.b[b]? = some ⟨u, .c T' l⟩ → tt[T]? = some i → (match i.kd with | .st _ => true | .ar _ _ => true | _ => false) = false → l[0]? = some av → Res1 s (.cell t T) av
inductive ResL (s : AS) : List ResultVar → List AV → Prop
  | nil : ResL s [] []
  | cons {r rs v vs} : Res1 s r v → ResL s rs vs → ResL s (r :: rs) (v :: vs)
def resV : List AV → AV
  | [v] => v
  | l => .tu l
inductive ClsV : List Sl → AV → AV → List Sl → Prop
  | ag {b l l' b'} : ClsC b l l' b' → ClsV b (.ag l) (.ag l') b'
  | one {b v v' b'} : ClsC b [v] [v'] b' → ClsV b v v' b'
  | bp {b k u off} : ClsV b (.bp k u off) (.bp k u off) b
  | de {b v} : ClsV b v .de b
inductive ClsL : List Sl → List AV → List AV → List Sl → Prop
  | nil {b} : ClsL b [] [] b
  | cons {b v v' b1 l l' b2} : ClsV b v v' b1 → ClsL b1 l l' b2 → ClsL b (v :: l) (v' :: l') b2
inductive ClsR : List Sl → AV → AV → List Sl → Prop
  | tu {b l l' b'} : ClsL b l l' b' → ClsR b (.tu l) (.tu l') b'
  | one {b v v' b'} : ClsV b v v' b' → ClsR b v v' b'
def RetQ (F : Func) (n : Nat) (Q : AV → List Bx → Prop) : Exit → AS → Prop := fun e s =>
  (e = .normal ∨ e = .ret) ∧ ∃ vs r1 b1 ks r bs' b2, ResL s F.results.toList vs ∧ ClsR s.b (resV vs) r1 b1 ∧ Out b1 ks bs' b2 ∧ RnV ks r r1 ∧ (∀ i, i < n → ks[i]? = some (i, 0)) ∧ Q r bs'
end

section
variable {X : Cx} {φ φ' : Fi} {κ κ' : Ka} {f : Nat → Ct} {L L' : Ct} {s : AS} {a : Act} {w w' : World}
theorem SatW.clsV {b : List Sl} {v v' : AV} {b' : List Sl} (hc : ClsV b v v' b') {t : List AV} {x : Value} (h : SatW X φ κ f L ⟨t, b⟩ a w) (hr : RV w φ κ X.R v x Ct.z) :
    ∃ X' S f', X.le X' ∧ RV w φ κ X'.R v' x S ∧ SatW X' φ κ f' (fun x => S x + L x) ⟨t, b'⟩ a w := by
  cases hc with
  | ag hc =>
    cases hr with
    | ag h1 h2 =>
      obtain ⟨X', S, f', hX, h3, _, h4⟩ := SatW.cls hc h h1
      exact ⟨X', S, f', hX, .ag h3 h2, h4⟩
  | one hc =>
    obtain ⟨X', S, f', hX, h3, _, h4⟩ := SatW.cls hc h (.cons (S := Ct.z) (T := Ct.z) hr .nil fun _ => rfl)
    cases h3 with
    | @cons _ _ _ _ S1 S2 _ h5 h6 h7 =>
      cases h6
      exact ⟨X', S1, f', hX, h5, h4.lim fun x => by have := h7 x; simp only [Ct.z] at this; omega⟩
  | bp => exact ⟨X, Ct.z, f, .rfl, hr, h.lim fun x => by simp [Ct.z]⟩
  | de => exact ⟨X, Ct.z, f, .rfl, .de, h.lim fun x => by simp [Ct.z]⟩
theorem SatW.clsL {b : List Sl} {l l' : List AV} {b' : List Sl} (hc : ClsL b l l' b') : ∀ {f : Nat → Ct} {L : Ct} {t : List AV} {vs : List Value}, SatW X φ κ f L ⟨t, b⟩ a w → RC w φ κ X.R l vs Ct.z →
    ∃ X' S f', X.le X' ∧ RC w φ κ X'.R l' vs S ∧ SatW X' φ κ f' (fun x => S x + L x) ⟨t, b'⟩ a w := by
  induction hc generalizing X with
  | nil => exact fun h hr => ⟨X, Ct.z, _, .rfl, hr, h.lim fun x => by simp [Ct.z]⟩
  | cons hv _ ih =>
    intro f L t vs h hr
    cases hr with
    | cons h1 h2 h3 =>
      obtain ⟨rfl, rfl⟩ := Ct.split h3
      obtain ⟨X1, S1, f1, hX1, h4, h5⟩ := SatW.clsV hv h h1
      obtain ⟨X2, S2, f2, hX2, h6, h7⟩ := ih h5 (RC.hist (fun _ _ _ h => h) (fun _ _ _ h => h) hX1.up h2)
      exact ⟨X2, fun x => S1 x + S2 x, f2, hX1.trans hX2, .cons (RV.hist (fun _ _ _ h => h) (fun _ _ _ h => h) hX2.up h4) h6 fun _ => rfl, h7.lim fun x => by (try dsimp only); omega⟩
theorem SatW.clsR {b : List Sl} {v v' : AV} {b' : List Sl} (hc : ClsR b v v' b') {t : List AV} {x : Value} (h : SatW X φ κ f L ⟨t, b⟩ a w) (hr : RV w φ κ X.R v x Ct.z) :
    ∃ X' S f', X.le X' ∧ RV w φ κ X'.R v' x S ∧ SatW X' φ κ f' (fun x => S x + L x) ⟨t, b'⟩ a w := by
  cases hc with
  | tu hc =>
    cases hr with
    | tu h1 =>
      obtain ⟨X', S, f', hX, h3, h4⟩ := SatW.clsL hc h h1
      exact ⟨X', S, f', hX, .tu h3, h4⟩
  | one hc => exact SatW.clsV hc h hr
def resOne (tmps : Array Value) : ResultVar → Sem Value
  | .tmp t => pure (tmps.getD t undef)
  | .cell c t => do loadVar t (← asAddr (tmps.getD c undef))
theorem run_res1 {r : ResultVar} {av : AV} (h : SatW X φ κ f L s a w) (hr : Res1 s r av) :
    ∃ v, RV w φ κ X.R av v Ct.z ∧ (resOne a.tmps r).run Try.prog w = .ok v w := by
  cases hr with
  | tmp ht => exact ⟨_, ht ▸ h.tmp _, rfl⟩
  | @row t T T' b u l i ht hs hT hk hl =>
    obtain ⟨d, hd, hrow, hi⟩ := ty_row hT hk
    obtain ⟨g, vs, he, hh, hc, h1⟩ := h.cells (Below.refl _ _) (x := .tmp t) (off := 0) ht hs
    have hlen := hc.length
    have e : a.tmps.getD t undef = .pointer (some ⟨g, 0, none⟩) := he
    refine ⟨_, .ag hc h1, ?_⟩
    have hr : w.rangeAt g 0 vs := fun j v hv => by rw [cell_of_row w g (0 + j) vs.toArray T' (0, 0) hh]; simpa using hv
    simp only [resOne, e]
    have := run_loadVar_mid w g 0 T vs d hr hd hrow (by rw [hi, hlen, hl])
    simp only [asAddr, Sem.run_bind, Sem.run_pure, Result.andThen_ok]
    exact this
  | @flat t T T' b u l i _ ht hs hT hk hl =>
    obtain ⟨d, hd, hrow, hi⟩ := ty_flat hT hk
    obtain ⟨g, vs, he, hh, hc, h1⟩ := h.cells (Below.refl _ _) (x := .tmp t) (off := 0) ht hs
    obtain ⟨v, hv, hrv⟩ := hc.at_ hl
    have e : a.tmps.getD t undef = .pointer (some ⟨g, 0, none⟩) := he
    refine ⟨v, hrv, ?_⟩
    have hcell : w.cell? ⟨g, 0, none⟩ = some v := by rw [cell_of_row w g 0 vs.toArray T' (0, 0) hh]; simpa using hv
    have := run_loadAt_flat w hd hrow hcell
    simp only [resOne, e]
    simp only [Instr.loadAt, Instr.sureAddr, Sem.run_bind, Sem.run_pure, Result.andThen_ok] at this
    simp only [asAddr, Sem.run_bind, Sem.run_pure, Result.andThen_ok]
    exact this
theorem run_resL : ∀ {rs : List ResultVar} {l : List AV}, SatW X φ κ f L s a w → ResL s rs l →
    ∃ vs, RC w φ κ X.R l vs Ct.z ∧ (rs.mapM (resOne a.tmps)).run Try.prog w = .ok vs w
  | _, _, h, .nil => ⟨[], .nil, rfl⟩
  | _, _, h, .cons h1 h2 => by
    obtain ⟨v, hv, hr⟩ := run_res1 h h1
    obtain ⟨vs, hvs, hrs⟩ := run_resL h h2
    refine ⟨v :: vs, .cons (S := Ct.z) (T := Ct.z) hv hvs fun _ => rfl, ?_⟩
    rw [List.mapM_cons]
    simp only [Sem.run_bind, hr, hrs, Result.andThen_ok]; rfl
theorem run_results {F : Func} {l : List AV} (h : SatW X φ κ f L s a w) (hl : ResL s F.results.toList l) : ∃ v, RV w φ κ X.R (resV l) v Ct.z ∧ (results F a.tmps).run Try.prog w = .ok v w := by
  obtain ⟨vs, hvs, hr⟩ := run_resL h hl
  have hm : (F.results.mapM (resOne a.tmps)).run Try.prog w = .ok vs.toArray w := by
    rw [Array.mapM_eq_mapM_toList]
    show Sem.run Try.prog ((List.mapM (resOne a.tmps) F.results.toList) >>= (Sem.pure ∘ List.toArray)) w = _
    rw [Sem.run_bind, hr]; rfl
  refine ⟨if h : vs.toArray.size = 1 then vs.toArray[0] else .tuple vs.toArray, ?_, ?_⟩
  · cases hvs with
    | nil => exact .tu .nil
    | cons h1 h2 h3 =>
      obtain ⟨rfl, rfl⟩ := Ct.split h3
      cases h2 with
      | nil => exact h1
      | cons h4 h5 h6 =>
        exact .tu (.cons (S := Ct.z) (T := Ct.z) h1 (.cons h4 h5 h6) fun _ => rfl)
  · have e : results F a.tmps = (do let vs ← F.results.mapM (resOne a.tmps); pure (if h : vs.size = 1 then vs[0] else .tuple vs)) := by
      unfold results
      congr 1
    rw [e, Sem.run_bind, hm]; rfl
end
end Go.Proofs.Ytkdbedbefojieaa
