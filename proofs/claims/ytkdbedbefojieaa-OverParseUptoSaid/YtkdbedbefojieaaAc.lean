/-
  CONTRACTS by abstract values: a call, an entry, a return. Nothing here names a function of the program.
-/
import Derived.Test.YtkdbedbefojieaaCall
import Derived.Calls
namespace Go.Proofs.Ytkdbedbefojieaa
set_option linter.unusedVariables false
set_option linter.unusedSimpArgs false
open Go.RowKit
set_option maxRecDepth 100000

/-- what a call of fn comes to: handed args and the boxes bs (their numbers are 0, 1, ..), it hands back a value and boxes as Q says -/
def AC (P : Program) (fn : Nat) (args : List AV) (bs : List Bx) (Q : AV → List Bx → Prop) : Prop :=
  (∀ (xs : Array Value) (w : World), (callFunc fn xs).run P w = .ok (.enter fn xs) w) ∧
  ∀ (w : World) (φ : Fi) (κ : Ka) (R : Nat → Prop) (vs : List Value) (gs : List Nat) (Sa Sb : Ct),
    RC w φ κ R args vs Sa → RXs w R bs gs Sb → (∀ (i g : Nat), gs[i]? = some g → φ i 0 = some g) → (∀ (i v : Nat), (bs.length ≤ i ∨ 0 < v) → φ i v = none) → (∀ (i v : Nat), κ i v = none) →
    (∀ x, Sa x + Sb x ≤ 1) → (∀ x, Sa x + Sb x ≠ 0 → x < w.heap.size) → (∀ x, R x → x < w.heap.size ∧ Sa x + Sb x = 0) →
    Calls P fn vs.toArray w fun e w' => ∃ v r bs' gs' Sr Sb' φ', ∃ F : Nat → Prop, e = .returned v ∧ Q r bs' ∧ RV w' φ' (fun _ _ => none) (fun x => R x ∨ F x) r v Sr ∧ RXs w' (fun x => R x ∨ F x) bs' gs' Sb' ∧
      (∀ (i g : Nat), gs'[i]? = some g → φ' i 0 = some g) ∧ (∀ (i g : Nat), gs[i]? = some g → gs'[i]? = some g) ∧
      (∀ x, Sr x + Sb' x ≤ 1) ∧ (∀ x, Sr x + Sb' x ≠ 0 ∨ F x → x < w'.heap.size ∧ (Sa x + Sb x ≠ 0 ∨ w.heap.size ≤ x)) ∧ (∀ x, F x → Sr x + Sb' x = 0) ∧ Fr w w' (fun x => Sa x + Sb x)
theorem AC.mono {P : Program} {fn : Nat} {args : List AV} {bs : List Bx} {Q Q' : AV → List Bx → Prop} (h : AC P fn args bs Q) (hq : ∀ r bs', Q r bs' → Q' r bs') : AC P fn args bs Q' :=
  ⟨h.1, fun w φ κ R vs gs Sa Sb a b c d e f g i => (h.2 w φ κ R vs gs Sa Sb a b c d e f g i).mono fun _ _ ⟨v, r, bs', gs', Sr, Sb', φ', F, h1, h2, h3⟩ => ⟨v, r, bs', gs', Sr, Sb', φ', F, h1, hq _ _ h2, h3⟩⟩

/-! what is handed over -/
mutual
inductive PasV (lb : Bool) (ks : List (Nat × Nat)) (bf : List Sl) : List Sl → AV → AV → List Sl → Prop
  | leaf {b a} : a.leaf = true → PasV lb ks bf b a a b
  | nl {b o k} : PasV lb ks bf b (.sc (.slice none 0 0)) (.sl o k []) b
  | bp {b i k u off} : ks[i]? = some (k, u) → PasV lb ks bf b (.bp k u off) (.bp i 0 off) b
  | lend {b j u e k s s'} : lb = true → bf[j]? = some ⟨u, .r e k s⟩ → roE s = s' → PasV lb ks bf b (.hd j u) (.sl none k s') b
  | mv {b j u e k s} : b[j]? = some ⟨u, .r e k s⟩ → PasV lb ks bf b (.hd j u) (.sl (some e) k s) (b.set j ⟨u, .x⟩)
  | fs {b k s} : PasV lb ks bf b (.fs k s) (.sl none k s) b
  | any {b a} : PasV lb ks bf b a .de b
  | ag {b l l' b'} : PasC lb ks bf b l l' b' → PasV lb ks bf b (.ag l) (.ag l') b'
  | fn {b f l l' b'} : PasC lb ks bf b l l' b' → PasV lb ks bf b (.fn f l) (.fn f l') b'
inductive PasC (lb : Bool) (ks : List (Nat × Nat)) (bf : List Sl) : List Sl → List AV → List AV → List Sl → Prop
  | nil {b} : PasC lb ks bf b [] [] b
  | cons {b a a' b1 l l' b2} : PasV lb ks bf b a a' b1 → PasC lb ks bf b1 l l' b2 → PasC lb ks bf b (a :: l) (a' :: l') b2
end
mutual
theorem PasV.nobf {ks : List (Nat × Nat)} {bf : List Sl} (bf' : List Sl) : ∀ {b : List Sl} {x x' : AV} {b' : List Sl}, PasV false ks bf b x x' b' → PasV false ks bf' b x x' b'
  | _, _, _, _, .leaf h => .leaf h
  | _, _, _, _, .nl => .nl
  | _, _, _, _, .bp h => .bp h
  | _, _, _, _, .lend h _ _ => by cases h
  | _, _, _, _, .mv h => .mv h
  | _, _, _, _, .fs => .fs
  | _, _, _, _, .any => .any
  | _, _, _, _, .ag h => .ag (PasC.nobf bf' h)
  | _, _, _, _, .fn h => .fn (PasC.nobf bf' h)
theorem PasC.nobf {ks : List (Nat × Nat)} {bf : List Sl} (bf' : List Sl) : ∀ {b : List Sl} {l l' : List AV} {b' : List Sl}, PasC false ks bf b l l' b' → PasC false ks bf' b l l' b'
  | _, _, _, _, .nil => .nil
  | _, _, _, _, .cons h k => .cons (PasV.nobf bf' h) (PasC.nobf bf' k)
end
section
variable {X : Cx} {φ φ' : Fi} {κ κ' : Ka} {f : Nat → Ct} {L L' : Ct} {s : AS} {a : Act} {w w' : World}
/-- what a callee may read besides: all that is kept back -/
def lendR (lb : Bool) (X : Cx) (ff : Nat → Ct) (n : Nat) : Nat → Prop := fun x => X.R x ∨ (lb = true ∧ sumF ff n x ≠ 0)
/-- handed over: at the end, whatever the rest has become -/
def Fin (lb : Bool) (X : Cx) (φ : Fi) (κ : Ka) (a : Act) (w : World) (ks : List (Nat × Nat)) (bf : List Sl) (t : List AV) (C : (Nat → Prop) → Fi → Ka → Prop) : Prop :=
  ∀ (X' : Cx) (ff : Nat → Ct) (LL : Ct) (φc : Fi) (κc : Ka), X.le X' → SatW X' φ κ ff LL ⟨t, bf⟩ a w → (∀ (i k u g : Nat), ks[i]? = some (k, u) → φ k u = some g → φc i 0 = some g) → C (lendR lb X' ff bf.length) φc κc
mutual
theorem SatW.pasV {lb : Bool} {ks : List (Nat × Nat)} {bf : List Sl} {t : List AV} : ∀ {b : List Sl} {av av' : AV} {b' : List Sl}, PasV lb ks bf b av av' b' → ∀ {f : Nat → Ct} {L : Ct} {v : Value}, SatW X φ κ f L ⟨t, b⟩ a w → RV w φ κ X.R av v Ct.z →
    ∃ S f', SatW X φ κ f' (fun x => S x + L x) ⟨t, b'⟩ a w ∧ Fin lb X φ κ a w ks bf t (fun R φc κc => RV w φc κc R av' v S)
  | _, _, _, _, .leaf hl, f, L, v, h, hr => ⟨Ct.z, f, h.lim fun x => by simp [Ct.z], fun X' ff LL φc κc hX _ _ => RV.hist (fun _ _ _ h => h) (fun _ _ _ h => h) (fun _ h => .inl (hX.up _ h)) (RV.any φc κc hr hl)⟩
  | _, _, _, _, .nl, f, L, v, h, hr => ⟨Ct.z, f, h.lim fun x => by simp [Ct.z], fun X' ff LL φc κc _ _ _ => by cases hr; exact .ni⟩
  | _, _, _, _, .bp hk, f, L, v, h, hr => ⟨Ct.z, f, h.lim fun x => by simp [Ct.z], fun X' ff LL φc κc _ _ hks => by cases hr with | bp hg => exact .bp (hks _ _ _ _ hk hg)⟩
  | _, _, _, _, (.lend (j := j) hlb hj hs), f, L, v, h, hr => ⟨Ct.z, f, h.lim fun x => by simp [Ct.z], fun X' ff LL φc κc hX hf _ => by
      have h1 := hf.sl _ _ hj
      have hjl : j < bf.length := (List.getElem?_eq_some_iff.1 hj).1
      cases hr with
      | hd hκ _ =>
        generalize hS : ff j = S at h1
        cases h1 with
        | r hκ' hv =>
          rw [hκ] at hκ'; injection hκ' with e; subst e
          subst hs
          have h2 := RV.ro_ hv
          refine RV.hist (fun _ _ _ h => h) (fun _ _ _ h => h) ?_ (RV.any φc κc h2 rfl)
          rintro x (hx | hx)
          · exact .inl hx
          · have := sumF_le ff x _ j hjl
            rw [← hS] at hx
            exact .inr ⟨hlb, by omega⟩⟩
  | _, _, _, _, .mv hj, f, L, v, h, hr => by
      obtain ⟨hrs, ht⟩ := h.take hj .x fun _ _ => .x
      cases hrs with
      | r hκ hv =>
        cases hr with
        | hd hκ' _ =>
          rw [hκ] at hκ'; injection hκ' with e; subst e
          exact ⟨_, _, ht, fun X' ff LL φc κc hX _ _ => RV.hist (fun _ _ _ h => h) (fun _ _ _ h => h) (fun _ h => .inl (hX.up _ h)) (RV.any φc κc hv rfl)⟩
  | _, _, _, _, .fs, f, L, v, h, hr => ⟨Ct.z, f, h.lim fun x => by simp [Ct.z], fun X' ff LL φc κc hX _ _ => by
      generalize hz : Ct.z = Z at hr ⊢
      cases hr with
      | fs h1 _ => exact RV.hist (fun _ _ _ h => h) (fun _ _ _ h => h) (fun _ h => .inl (hX.up _ h)) (RV.any φc κc h1 rfl)⟩
  | _, _, _, _, .any, f, L, v, h, hr => ⟨Ct.z, f, h.lim fun x => by simp [Ct.z], fun X' ff LL φc κc _ _ _ => .de⟩
  | _, _, _, _, .ag hc, f, L, v, h, hr => by
      cases hr with
      | ag hrc ho =>
        obtain ⟨S, f', h1, h2⟩ := SatW.pasC hc h hrc
        exact ⟨S, f', h1, fun X' ff LL φc κc hX h3 h4 => .ag (h2 X' ff LL φc κc hX h3 h4) ho⟩
  | _, _, _, _, .fn hc, f, L, v, h, hr => by
      cases hr with
      | fn hrc =>
        obtain ⟨S, f', h1, h2⟩ := SatW.pasC hc h hrc
        exact ⟨S, f', h1, fun X' ff LL φc κc hX h3 h4 => .fn (h2 X' ff LL φc κc hX h3 h4)⟩
theorem SatW.pasC {lb : Bool} {ks : List (Nat × Nat)} {bf : List Sl} {t : List AV} : ∀ {b : List Sl} {l l' : List AV} {b' : List Sl}, PasC lb ks bf b l l' b' → ∀ {f : Nat → Ct} {L : Ct} {vs : List Value}, SatW X φ κ f L ⟨t, b⟩ a w → RC w φ κ X.R l vs Ct.z →
    ∃ S f', SatW X φ κ f' (fun x => S x + L x) ⟨t, b'⟩ a w ∧ Fin lb X φ κ a w ks bf t (fun R φc κc => RC w φc κc R l' vs S)
  | _, _, _, _, .nil, f, L, vs, h, hr => ⟨Ct.z, f, h.lim fun x => by simp [Ct.z], fun X' ff LL φc κc _ _ _ => by cases hr; exact .nil⟩
  | _, _, _, _, .cons hv hc, f, L, vs, h, hr => by
      cases hr with
      | cons h1 h2 h3 =>
        obtain ⟨rfl, rfl⟩ := Ct.split h3
        obtain ⟨S1, f1, h4, h5⟩ := SatW.pasV hv h h1
        obtain ⟨S2, f2, h6, h7⟩ := SatW.pasC hc h4 h2
        exact ⟨fun x => S1 x + S2 x, f2, h6.lim fun x => by (try dsimp only); omega, fun X' ff LL φc κc hX h8 h9 => .cons (h5 X' ff LL φc κc hX h8 h9) (h7 X' ff LL φc κc hX h8 h9) fun _ => rfl⟩
end
/-! names of boxes: a contract's, a caller's -/
mutual
inductive RnV (ks : List (Nat × Nat)) : AV → AV → Prop
  | leaf {x} : x.leaf = true → RnV ks x x
  | bp {i k u off} : ks[i]? = some (k, u) → RnV ks (.bp i 0 off) (.bp k u off)
  | ag {l l'} : RnC ks l l' → RnV ks (.ag l) (.ag l')
  | tu {l l'} : RnC ks l l' → RnV ks (.tu l) (.tu l')
inductive RnC (ks : List (Nat × Nat)) : List AV → List AV → Prop
  | nil : RnC ks [] []
  | cons {x x' l l'} : RnV ks x x' → RnC ks l l' → RnC ks (x :: l) (x' :: l')
end
mutual
theorem RnV.to {R : Nat → Prop} {ks : List (Nat × Nat)} (hk : ∀ (i k u g : Nat), ks[i]? = some (k, u) → φ i 0 = some g → φ' k u = some g) (κ' : Ka) : ∀ {a a' : AV}, RnV ks a a' → ∀ {v : Value} {S : Ct}, RV w φ κ R a v S → RV w φ' κ' R a' v S
  | _, _, .leaf hl, _, _, hr => RV.any _ _ hr hl
  | _, _, .bp hi, _, _, hr => by cases hr with | bp hg => exact .bp (hk _ _ _ _ hi hg)
  | _, _, .ag hc, _, _, hr => by cases hr with | ag h1 h2 => exact .ag (RnC.to hk κ' hc h1) h2
  | _, _, .tu hc, _, _, hr => by cases hr with | tu h1 => exact .tu (RnC.to hk κ' hc h1)
theorem RnC.to {R : Nat → Prop} {ks : List (Nat × Nat)} (hk : ∀ (i k u g : Nat), ks[i]? = some (k, u) → φ i 0 = some g → φ' k u = some g) (κ' : Ka) : ∀ {l l' : List AV}, RnC ks l l' → ∀ {vs : List Value} {S : Ct}, RC w φ κ R l vs S → RC w φ' κ' R l' vs S
  | _, _, .nil, _, _, hr => by cases hr; exact .nil
  | _, _, .cons h1 h2, _, _, hr => by cases hr with | cons h3 h4 h5 => exact .cons (RnV.to hk κ' h1 h3) (RnC.to hk κ' h2 h4) h5
end
/-- places for n boxes -/
def plc : Nat → List Sl → List (Nat × Nat) × List Sl
  | 0, b => ([], b)
  | n + 1, b => (((newS b .o).1) :: (plc n (newS b .o).2).1, (plc n (newS b .o).2).2)
theorem SatW.plc_ : ∀ (n : Nat) {φ : Fi} {κ : Ka} {f : Nat → Ct} {s : AS} (gs : List Nat), gs.length = n → SatW X φ κ f L s a w →
    ∃ φ' κ' f', (∀ b u g, φ b u = some g → φ' b u = some g) ∧ (∀ b u v, κ b u = some v → κ' b u = some v) ∧ SatW X φ' κ' f' L ⟨s.t, (plc n s.b).2⟩ a w ∧ ∀ (i k u : Nat), (plc n s.b).1[i]? = some (k, u) → ∃ g, gs[i]? = some g ∧ φ' k u = some g
  | 0, φ, κ, f, s, gs, hl, h => ⟨φ, κ, f, fun _ _ _ h => h, fun _ _ _ h => h, h, fun i k u hi => by simp [plc] at hi⟩
  | n + 1, φ, κ, f, s, gs, hl, h => by
    cases gs with
    | nil => simp at hl
    | cons g gs =>
      obtain ⟨φ1, κ1, f1, e1, e2, e3, e4, e5⟩ := h.newS_ (w' := w) (B := .o) (g := Ct.z) (L' := L) (some g) none (Nat.le_refl _) rfl rfl rfl (fun _ _ _ => rfl) (fun _ _ _ _ _ _ _ _ => .o) (fun x _ => by simp [Ct.z])
        (fun x hx => by
          have h1 := h.own x
          have h2 := h.one x
          simp only [Ct.z]; exact ⟨by omega, fun h0 => (h1 (by omega)).1⟩)
      obtain ⟨φ2, κ2, f2, e6, e7, e8, e9⟩ := SatW.plc_ n gs (by simpa using hl) e5
      refine ⟨φ2, κ2, f2, fun _ _ _ h => e6 _ _ _ (e1 _ _ _ h), fun _ _ _ h => e7 _ _ _ (e2 _ _ _ h), e8, fun i k u hi => ?_⟩
      cases i with
      | zero =>
        simp only [plc, List.getElem?_cons_zero, Option.some.injEq] at hi
        refine ⟨g, rfl, e6 _ _ _ ?_⟩
        rw [hi] at e3; exact e3
      | succ i => simpa using e9 i k u (by simpa [plc] using hi)

/-- boxes that read nothing of what was lent -/
def NRB : Bx → Prop
  | .c _ l => ∀ a ∈ l, NR a
  | _ => True
theorem RXs.nr {R : Nat → Prop} (R' : Nat → Prop) : ∀ {bs gs S}, RXs w R bs gs S → (∀ B ∈ bs, NRB B) → RXs w R' bs gs S
  | _, _, _, .nil, _ => .nil
  | _, _, _, .cons (.c a b c d e) h1 h2, hn => .cons (.c a (RC.nr R' b (show NRB (.c _ _) from hn _ List.mem_cons_self)) c d e) (RXs.nr R' h1 fun B hB => hn B (by simp [hB])) h2
theorem RXs.mono {R R' : Nat → Prop} (h : ∀ x, R x → R' x) : ∀ {bs gs S}, RXs w R bs gs S → RXs w R' bs gs S
  | _, _, _, .nil => .nil
  | _, _, _, .cons (.c a b c d e) h1 h2 => .cons (.c a (RC.hist (fun _ _ _ h => h) (fun _ _ _ h => h) h b) c d e) (RXs.mono h h1) h2

variable {P : Program} {ops : Array Oper} {rest : List Oper} {o : Oper} {av : AV} {Q : Exit → AS → Prop}
theorem SatW.evl (h : SatW X φ κ f L s a w) : ∀ xs : List Operand, RC w φ κ X.R (xs.map (aev s)) (xs.map a.eval) Ct.z
  | [] => .nil
  | x :: xs => .cons (S := Ct.z) (T := Ct.z) (h.ev x) (h.evl xs) fun _ => rfl
theorem run_callv {fn : Nat} {fo : Operand} {xs : Array Operand} {tys : Array TypeId} {cvs : List Value} (ho : o.op = .call { callee := .value fo, args := xs, argTypes := tys }) (hf : a.eval fo = .func (.func fn) #[] cvs.toArray)
    (hc : ∀ (xs : Array Value) (w : World), (callFunc fn xs).run P w = .ok (.enter fn xs) w) : (execOp a.eval o).run P w = .ok (.enter fn (xs.map a.eval ++ cvs.toArray)) w := by
  simp only [execOp, ho, resolve, Deferred.ofValue, hf, Sem.run_bind, Sem.run_pure, Result.andThen_ok, invoke, Array.empty_append]
  exact hc _ _
theorem Out.length : ∀ {b : List Sl} {ks : List (Nat × Nat)} {bs : List Bx} {b' : List Sl}, Out b ks bs b' → ks.length = bs.length
  | _, _, _, _, .nil => rfl
  | _, _, _, _, .cons _ _ h => by simp [Out.length h]
/-- A CALL. ks: the boxes that are handed over; where something is lent, what is told reads nothing of it -/
theorem ap_call (lb : Bool) {fn : Nat} {fo : Operand} {cap : List AV} {xs : Array Operand} {tys : Array TypeId} {ks : List (Nat × Nat)} {al : List AV} {bs : List Bx} {b1 bf : List Sl} {Qc : AV → List Bx → Prop}
    (hg : o.guard = none) (ho : o.op = .call { callee := .value fo, args := xs, argTypes := tys }) (hfo : aev s fo = .fn fn cap) (hc : AC P fn al bs Qc)
    (hp : PasC lb ks bf s.b (xs.toList.map (aev s) ++ cap) al b1) (hout : Out b1 ks bs bf)
    (hn : lb = true → ∀ r bs', Qc r bs' → NR r ∧ ∀ B ∈ bs', NRB B)
    (K : ∀ r bs', Qc r bs' → ∃ n r1 b3, bs'.length = ks.length + n ∧ Bk (plc n bf).2 (ks ++ (plc n bf).1) bs' b3 ∧ RnV (ks ++ (plc n bf).1) r r1 ∧ r1.fl2 ∧ AP P X ops Q rest (AS.put ⟨s.t, (opnR r1 b3).2⟩ o.dst (opnR r1 b3).1)) : AP P X ops Q (o :: rest) s := by
  rintro a w ⟨X0, φ, κ, f, hX0, h⟩
  refine wpList_plain hg fun K' hK' => ?_
  have hfv := h.evs hfo
  obtain ⟨cvs, hcv, hcr⟩ : ∃ cvs : List Value, a.eval fo = .func (.func fn) #[] cvs.toArray ∧ RC w φ κ X0.R cap cvs Ct.z := by
    generalize a.eval fo = v at hfv
    cases hfv with | fn h => exact ⟨_, rfl, h⟩
  have hrun := run_callv (P := P) (w := w) ho hcv hc.1
  unfold Oper.wp
  rw [hrun]
  show Calls P fn (xs.map a.eval ++ cvs.toArray) w _
  obtain ⟨S1, f1, h1, hfin⟩ := SatW.pasC (t := s.t) hp h ((h.evl xs.toList).append hcr (U := Ct.z) fun _ => rfl)
  obtain ⟨X1, gs, Sb, f2, hX1, h2, h3, h4⟩ := SatW.out hout h1
  have hkl : ks.length = bs.length := hout.length
  have hgl := h2.length
  have hargs := hfin X1 f2 _ (fun i v => if v = 0 then gs[i]? else none) (fun _ _ => none) hX1 h3 (fun i k u g hi hg => by
    obtain ⟨g', h5, h6⟩ := h4 i k u hi
    rw [hg] at h6; injection h6 with e; subst e
    simp [h5])
  have hsum : ∀ x, S1 x + Sb x = Sb x + (S1 x + Ct.z x) := fun x => by simp only [Ct.z]; omega
  have hcalls := hc.2 w _ _ (lendR lb X1 f2 bf.length) _ gs S1 Sb hargs (RXs.mono (fun x hx => .inl hx) h2) (fun i g hi => by simp [hi]) (fun i v hv => by
      by_cases hv0 : v = 0
      · rw [if_pos hv0]; exact List.getElem?_eq_none (by omega)
      · rw [if_neg hv0]) (fun _ _ => rfl) (fun x => by have := h3.one x; rw [hsum]; dsimp only at this ⊢; omega) (fun x hx => (h3.own x (by rw [hsum] at hx; dsimp only; omega)).1)
      (fun x hx => by
        rw [hsum]
        rcases hx with hx | ⟨_, hx⟩
        · have h5 := h3.not_rd hx
          exact ⟨h3.blk (.inl hx), by dsimp only at h5 ⊢; omega⟩
        · have h5 := h3.one x
          have h6 := h3.own x
          dsimp only at h5 h6 ⊢
          exact ⟨(h6 (by omega)).1, by omega⟩)
  have e0 : (xs.toList.map a.eval ++ cvs).toArray = xs.map a.eval ++ cvs.toArray := by cases xs; simp
  rw [e0] at hcalls
  refine hcalls.mono ?_
  rintro e w' ⟨v, r, bs', gs', Sr, Sb', φ', F, rfl, hQ, hr, hrx, h5, h6, h7, h8, hF, h9⟩
  obtain ⟨n, r1, b3, hlen, hbk, hrn, hfl, hK⟩ := K r bs' hQ
  have h10 : SatW X1 φ κ f2 (fun x => Sr x + Sb' x) ⟨s.t, bf⟩ a w' := by
    have hfr : Fr w w' (fun x => Sb x + (S1 x + Ct.z x)) := by
      have e : (fun x => S1 x + Sb x) = (fun x => Sb x + (S1 x + Ct.z x)) := funext hsum
      rw [← e]; exact h9
    refine h3.went hfr h7 fun x hx => ?_
    have := h8 x (.inl hx)
    rw [hsum] at this
    exact this
  obtain ⟨X2, hX2, h11, hr2, hrx2⟩ : ∃ X2, X1.le X2 ∧ SatW X2 φ κ f2 (fun x => Sr x + Sb' x) ⟨s.t, bf⟩ a w' ∧ RV w' φ' (fun _ _ => none) X2.R r v Sr ∧ RXs w' X2.R bs' gs' Sb' := by
    cases lb with
    | true =>
      obtain ⟨hnr, hnb⟩ := hn rfl r bs' hQ
      exact ⟨X1, .rfl, h10, RV.nr X1.R hr hnr, hrx.nr X1.R hnb⟩
    | false =>
      have hle : ∀ x, lendR false X1 f2 bf.length x ∨ F x → X1.R x ∨ F x := fun x hx => hx.imp (fun h => h.elim id fun h => by cases h.1) id
      refine ⟨⟨fun x => X1.R x ∨ F x, X1.w0, X1.S0, X1.g0⟩, ⟨rfl, rfl, rfl, fun x hx => .inl hx, fun x hx => hx.imp id fun hx => ?_⟩, h10.grow (fun x hx => .inl hx) fun x hx => ?_, RV.hist (fun _ _ _ h => h) (fun _ _ _ h => h) hle hr, RXs.mono hle hrx⟩
      · have h12 := h8 x (.inr hx)
        rcases h12.2 with h13 | h13
        · exact (h3.own x (by rw [hsum] at h13; dsimp only; omega)).2
        · have := h3.fr.size; exact .inr (by omega)
      · rcases hx with hx | hx
        · exact h10.rd x hx
        · have h12 := h8 x (.inr hx)
          have h13 := hF x hx
          have h14 := h3.one x
          have h15 := h3.own x
          refine ⟨h12.1, ?_⟩
          dsimp only at h14 h15 ⊢
          rcases h12.2 with h16 | h16
          · rw [hsum] at h16; omega
          · omega
  have hgl' := hrx2.length
  obtain ⟨φ2, κ2, f3, e1, e2, e3, e4⟩ := SatW.plc_ (s := ⟨s.t, bf⟩) n (gs'.drop ks.length) (by simp; omega) h11
  have hks : ∀ (i k u : Nat), (ks ++ (plc n bf).1)[i]? = some (k, u) → ∃ g, gs'[i]? = some g ∧ φ2 k u = some g := by
    intro i k u hi
    by_cases hil : i < ks.length
    · rw [List.getElem?_append_left hil] at hi
      obtain ⟨g, h11, h12⟩ := h4 i k u hi
      exact ⟨g, h6 i g h11, e1 _ _ _ h12⟩
    · rw [List.getElem?_append_right (by omega)] at hi
      obtain ⟨g, h11, h12⟩ := e4 _ k u hi
      rw [List.getElem?_drop, show ks.length + (i - ks.length) = i by omega] at h11
      exact ⟨g, h11, h12⟩
  obtain ⟨φ3, κ3, f4, e5, e6, e7⟩ := SatW.bk hbk (L' := Sr) e3 hrx2 (fun x => by (try dsimp only); omega) hks
  have hr1 : RV w' φ3 κ3 X2.R r1 v Sr := RnV.to (fun i k u g hi hg => by
    obtain ⟨g', h11, h12⟩ := hks i k u hi
    have := h5 i g' h11
    rw [hg] at this; injection this with e; subst e
    exact e5 _ _ _ h12) κ3 hrn hr2
  obtain ⟨φ4, κ4, f5, e8, e9, e10, e11⟩ := e7.opnR_ (L' := Ct.z) hr1 (fun x => by simp [Ct.z]) hfl
  exact hK' _ _ (hK _ _ ⟨X2, φ4, κ4, f5, hX0.trans (hX1.trans hX2), e11.puts o.dst e10⟩)

/-! what a contract tells as one's own, as what may be read -/
theorem AC.ro {fn : Nat} {args : List AV} {bs bs2 : List Bx} {r r2 : AV} (h : AC P fn args bs (fun v bs' => v = r ∧ bs' = bs2)) (e : r.ro = r2) : AC P fn args bs (fun v bs' => v = r2 ∧ bs' = bs2) :=
  ⟨h.1, fun w φ κ R vs gs Sa Sb a1 a2 a3 a4 a5 a6 a7 a8 => (h.2 w φ κ R vs gs Sa Sb a1 a2 a3 a4 a5 a6 a7 a8).mono fun ee w' ⟨v, r', bs', gs', Sr, Sb', φ', F, h1, h2, h3, h4, h5, h6, h7, h8, h9, h10⟩ => by
    obtain ⟨rfl, rfl⟩ := h2
    subst e
    refine ⟨v, _, _, gs', Ct.z, Sb', φ', fun x => F x ∨ Sr x ≠ 0, h1, ⟨rfl, rfl⟩, ?_, RXs.mono (fun x hx => hx.imp id .inl) h4, h5, h6, fun x => by have := h7 x; simp only [Ct.z]; omega, fun x hx => h8 x ?_, fun x hx => ?_, h10⟩
    · exact RV.hist (fun _ _ _ h => h) (fun _ _ _ h => h) (fun x hx => by rcases hx with (hx | hx) | hx; exact .inl hx; exact .inr (.inl hx); exact .inr (.inr hx)) (RV.ro_ h3)
    · rcases hx with hx | hx | hx
      · left; simp only [Ct.z] at hx; omega
      · exact .inr hx
      · left; omega
    · have := h7 x
      simp only [Ct.z]
      rcases hx with hx | hx
      · have := h9 x hx; omega
      · omega⟩
end
end Go.Proofs.Ytkdbedbefojieaa
