/-
  LENGTHS, PIECES, NIL, by abstract values. Nothing here names a function of the program.
-/
import Derived.Test.YtkdbedbefojieaaOp2
namespace Go.Proofs.Ytkdbedbefojieaa
set_option linter.unusedVariables false
set_option linter.unusedSimpArgs false
open Go.RowKit
set_option maxRecDepth 100000

section
variable {X : Cx} {φ : Fi} {κ : Ka} {f : Nat → Ct} {L : Ct} {s : AS} {a : Act} {w w' : World} {o : Oper} {av : AV}
theorem run_len {x : Operand} {ty : TypeId} {tys : Array TypeId} {a : Act} {v : Value} (ho : o.op = .call { callee := .builtin .len, args := #[x], argTypes := tys }) (h : ∀ ty, (Builtin.len_ tys ty #[a.eval x]).run Try.prog w = .ok v w) :
    (execOp a.eval o).run Try.prog w = .ok (.value v) w := by
  simp only [execOp, ho, resolve, invoke, builtin, Sem.run_bind, Sem.run_pure, Result.andThen_ok, List.map_toArray, List.map_cons, List.map_nil, h]
theorem len_ty {tys : Array TypeId} {A : Option Addr} {n c : Nat} {T e : TypeId} {i : TI} (hT : tt[T]? = some i) (hk : i.kd = .sl e) (ty : TypeId) (w : World) : (Builtin.len_ #[T] ty #[.slice A n c]).run Try.prog w = .ok (.int .i64 n) w := by
  simp [Builtin.len_, run_underlying (ty_sl hT hk), goInt, go_sem]
theorem RV.sl_form {R : Nat → Prop} {oo : Option TypeId} {k : Nat} {s' : List (List AV)} {v : Value} {S : Ct} (h : RV w φ κ R (.sl oo k s') v S) : ∃ A c, v = .slice A s'.length c ∧ s'.length ≤ c ∧ c ≤ maxLen ∧ (A = none → c = 0) := by
  cases h with
  | ni => exact ⟨none, 0, rfl, Nat.le_refl _, Nat.zero_le _, fun _ => rfl⟩
  | ne => exact ⟨_, 0, rfl, Nat.le_refl _, Nat.zero_le _, fun e => by cases e⟩
  | ro _ h1 h2 _ _ => exact ⟨_, _, rfl, h1, h2, fun e => by cases e⟩
  | ow _ _ h1 h2 _ _ _ => exact ⟨_, _, rfl, h1, h2, fun e => by cases e⟩
theorem pq_len_ro {T e k : Nat} {x : Operand} {oo : Option TypeId} {s' : List (List AV)} {i : TI} (ho : o.op = .call { callee := .builtin .len, args := #[x], argTypes := #[T] }) (hx : aev s x = .sl oo k s') (hT : tt[T]? = some i) (hk : i.kd = .sl e) : Pq Try.prog X s o (.sc (.int .i64 s'.length)) := .of_run fun X φ κ f a w h => by
  obtain ⟨A, c, hv, _⟩ := (h.evs hx).sl_form
  exact ⟨_, .sc rfl, fun w' _ => run_len (ty := 0) ho fun ty => by rw [hv]; exact len_ty (tys := #[T]) hT hk ty w'⟩
theorem pq_len_nil {T e : Nat} {x : Operand} {i : TI} (ho : o.op = .call { callee := .builtin .len, args := #[x], argTypes := #[T] }) (hx : aev s x = .sc (.slice none 0 0)) (hT : tt[T]? = some i) (hk : i.kd = .sl e) : Pq Try.prog X s o (.sc (.int .i64 0)) := .of_run fun X φ κ f a w h => by
  have h1 := h.evc hx
  exact ⟨_, .sc rfl, fun w' _ => run_len (ty := 0) ho fun ty => by rw [h1]; exact len_ty (tys := #[T]) hT hk ty w'⟩
/-- the value of an array of one's own -/
theorem SatW.hdv (h : SatW X φ κ f L s a w) {x : Operand} {b u e k : Nat} {s' : List (List AV)} (hx : aev s x = .hd b u) (hs : s.b[b]? = some ⟨u, .r e k s'⟩) : RV w φ κ X.R (.sl (some e) k s') (a.eval x) (f b) := by
  have h1 := h.evs hx
  have h2 := h.sl b _ hs
  generalize a.eval x = p at h1
  cases h1 with
  | hd hκ _ =>
    cases h2 with
    | r hκ' hv => rw [hκ] at hκ'; injection hκ' with e; subst e; exact hv
theorem pq_len_hd {T e e' k b u : Nat} {x : Operand} {s' : List (List AV)} {i : TI} (ho : o.op = .call { callee := .builtin .len, args := #[x], argTypes := #[T] }) (hx : aev s x = .hd b u) (hs : s.b[b]? = some ⟨u, .r e' k s'⟩) (hT : tt[T]? = some i) (hk : i.kd = .sl e) : Pq Try.prog X s o (.sc (.int .i64 s'.length)) := .of_run fun X φ κ f a w h => by
  obtain ⟨A, c, hv, _⟩ := (h.hdv hx hs).sl_form
  exact ⟨_, .sc rfl, fun w' _ => run_len (ty := 0) ho fun ty => by rw [hv]; exact len_ty (tys := #[T]) hT hk ty w'⟩
theorem pq_len_fs {T e k : Nat} {x : Operand} {s' : List (List AV)} {i : TI} (ho : o.op = .call { callee := .builtin .len, args := #[x], argTypes := #[T] }) (hx : aev s x = .fs k s') (hT : tt[T]? = some i) (hk : i.kd = .sl e) : Pq Try.prog X s o (.sc (.int .i64 s'.length)) := .of_run fun X φ κ f a w h => by
  have h1 := h.evs hx
  generalize hp : a.eval x = p at h1
  cases h1 with
  | fs _ h2 =>
    obtain ⟨A, rfl⟩ := h2
    exact ⟨_, .sc rfl, fun w' _ => run_len (ty := 0) ho fun ty => by rw [hp]; exact len_ty (tys := #[T]) hT hk ty w'⟩
theorem pq_len_str {T : Nat} {x : Operand} {b : ByteArray} {i : TI} (ho : o.op = .call { callee := .builtin .len, args := #[x], argTypes := #[T] }) (hx : aev s x = .sc (.string b)) (hT : tt[T]? = some i) (hk : i.kd = .sr) : Pq Try.prog X s o (.sc (.int .i64 b.size)) := .of_run fun X φ κ f a w h => by
  have h1 := h.evc hx
  exact ⟨_, .sc rfl, fun w' _ => run_len (ty := 0) ho fun ty => by rw [h1]; simp [Builtin.len_, run_underlying (ty_sr hT hk), goInt, go_sem]⟩

/-! pieces -/
theorem RE.piece {R : Nat → Prop} {k : Nat} {s' : List (List AV)} {us : List Value} (h : RE w φ κ R k s' us Ct.z) (lo n : Nat) : RE w φ κ R k ((s'.drop lo).take n) ((us.drop (lo * k)).take (n * k)) Ct.z := by
  induction s' generalizing us lo n with
  | nil => cases h; simp; exact .nil
  | cons c s' ih =>
    cases h with
    | @cons _ _ _ us vs S T _ h1 h2 o h3 h4 =>
      obtain ⟨rfl, rfl⟩ := Ct.split h4
      cases lo with
      | succ lo =>
        have e : (us ++ vs).drop ((lo + 1) * k) = vs.drop (lo * k) := by
          rw [Nat.add_mul, List.drop_append, List.drop_eq_nil_of_le (by omega), List.nil_append]; congr 1; omega
        rw [e]; exact ih h3 lo n
      | zero =>
        cases n with
        | zero => simp; exact .nil
        | succ n =>
          have e : ((us ++ vs).drop (0 * k)).take ((n + 1) * k) = us ++ (vs.drop (0 * k)).take (n * k) := by
            simp only [Nat.zero_mul, List.drop_zero]
            rw [List.take_append, List.take_of_length_le (by rw [Nat.add_mul]; omega)]
            congr 2; rw [h2, Nat.add_mul]; omega
          rw [e]
          exact .cons (S := Ct.z) (T := Ct.z) h1 h2 o (ih h3 0 n) fun _ => rfl
theorem run_slice {T e : TypeId} {i ie : TI} {A : Option Addr} {n c l h m : Nat} {lo hi mx : Option Value} (hT : tt[T]? = some i) (hk : i.kd = .sl e) (he : tt[e]? = some ie) (hb : ∀ w, (Instr.sliceBounds true n c lo hi mx).run Try.prog w = .ok (l, h, m) w) (w : World) :
    (Instr.sliceAt T (.slice A n c) lo hi mx).run Try.prog w = .ok (.slice (if m = l then A else A.map (·.add (l * ie.size))) (h - l) (m - l)) w := by
  have hu := ty_sl hT hk
  simp only [Instr.sliceAt, Instr.slice, Sem.run_bind, run_underlying hu, Result.andThen_ok, hb, ty_size he]; rfl
theorem run_bounds {n c l h m : Nat} {lo hi mx : Option Value} (hlo : lo = none ∧ l = 0 ∨ ∃ k, lo = some (.int k l)) (hhi : hi = none ∧ mx = none ∧ h = n ∨ ∃ k, hi = some (.int k h)) (hmx : mx = none ∧ m = c ∨ ∃ k, mx = some (.int k m)) (h1 : l ≤ h) (h2 : h ≤ m) (h3 : m ≤ c) (w : World) :
    (Instr.sliceBounds true n c lo hi mx).run Try.prog w = .ok (l, h, m) w := by
  have hb : ∀ (k : IntKind) (x y : Nat) (code : BoundsCode), x ≤ y → (Instr.sliceBound (.int k x) y code).run Try.prog w = .ok x w := by
    intro k x y code hxy
    simp [Instr.sliceBound, asIntOf, hxy, go_sem]
  rcases hmx with ⟨rfl, rfl⟩ | ⟨km, rfl⟩ <;> rcases hhi with ⟨rfl, e2, rfl⟩ | ⟨kh, rfl⟩ <;> rcases hlo with ⟨rfl, rfl⟩ | ⟨kl, rfl⟩
  all_goals first
    | (cases e2; done)
    | skip
  all_goals (unfold Instr.sliceBounds; simp only [Sem.run_bind, hb _ _ _ _ h1, hb _ _ _ _ h2, hb _ _ _ _ h3, Result.andThen_ok, Sem.run_pure]; first | rfl | skip)
/-- bounds as a state has them -/
inductive Bd (s : AS) : Option Operand → Nat → Nat → Prop
  | no {d} : Bd s none d d
  | int {x k d j} : aev s x = .sc (.int k (j : Nat)) → Bd s (some x) d j
  | lit {x k d} {j : Nat} {z : Int} : aev s x = .sc (.int k z) → z = j → Bd s (some x) d j
theorem Bd.lo {s : AS} {h0 : SatW X φ κ f L s a w} {x : Option Operand} {d l : Nat} (h : Bd s x d l) : x.map a.eval = none ∧ l = d ∨ ∃ k, x.map a.eval = some (.int k l) := by
  cases h with
  | no => exact .inl ⟨rfl, rfl⟩
  | int hx => exact .inr ⟨_, by rw [Option.map_some, h0.evc hx]⟩
  | lit hx hz => subst hz; exact .inr ⟨_, by rw [Option.map_some, h0.evc hx]⟩
theorem RV.piece {R : Nat → Prop} {k l h m c : Nat} {s' : List (List AV)} {A : Option Addr} (hv : RV w φ κ R (.sl none k s') (.slice A s'.length c) Ct.z) (h1 : l ≤ h) (h2 : h ≤ s'.length) (hm1 : h ≤ m) (hm2 : m ≤ c) :
    RV w φ κ R (.sl none k ((s'.drop l).take (h - l))) (.slice (if m = l then A else A.map (·.add (l * k))) (h - l) (m - l)) Ct.z := by
  generalize hnn : s'.length = nn at hv
  cases hv with
  | ni =>
    simp at h2
    subst h2
    have : l = 0 := by omega
    subst this
    have : m = 0 := by omega
    subst this
    simp; exact .ni
  | ne =>
    simp at h2
    subst h2
    have : l = 0 := by omega
    subst this
    have : m = 0 := by omega
    subst this
    simp; exact .ne
  | @ro _ _ b oo _ us hre hle hm hR hcell =>
    have hlen : ((s'.drop l).take (h - l)).length = h - l := by simp; omega
    have key : ∀ oo', ((s'.drop l).take (h - l) ≠ [] → oo' = oo + l * k) → RV w φ κ R (.sl none k ((s'.drop l).take (h - l))) (.slice (some ⟨b, oo', none⟩) ((s'.drop l).take (h - l)).length (m - l)) Ct.z := by
      intro oo' hoo
      refine .ro (hre.piece l (h - l)) (by rw [hlen]; omega) (by omega) (fun hne => hR ?_) fun j u hj => ?_
      · rintro rfl; simp at hne
      · have hne : (s'.drop l).take (h - l) ≠ [] := by
          intro e0
          have h9 := (hre.piece l (h - l)).length
          rw [e0] at h9
          have h10 := (List.getElem?_eq_some_iff.1 hj).1
          rw [h9] at h10
          simp at h10
        rw [hoo hne]
        rw [List.getElem?_take] at hj
        split at hj
        · rw [List.getElem?_drop] at hj
          have := hcell _ _ hj
          rwa [show oo + l * k + j = oo + (l * k + j) by omega]
        · cases hj
    by_cases hcl : m = l
    · rw [if_pos hcl]
      have h3 : h = l := by omega
      have := key oo (fun hne => absurd (by simp [h3]) hne)
      rwa [hlen] at this
    · rw [if_neg hcl]
      simp only [Option.map_some, addr_mid]
      have := key (oo + l * k) fun _ => rfl
      rwa [hlen] at this
/-- a piece of what may be read -/
theorem pq_slice_ro {T e k l h : Nat} {x : Operand} {lo hi : Option Operand} {s' : List (List AV)} {i ie : TI} (ho : o.op = .slice T x lo hi none) (hx : aev s x = .sl none k s') (hT : tt[T]? = some i) (hk : i.kd = .sl e) (he : tt[e]? = some ie) (hsz : ie.size = k)
    (hlo : Bd s lo 0 l) (hhi : Bd s hi s'.length h) (h1 : l ≤ h) (h2 : h ≤ s'.length) : Pq Try.prog X s o (.sl none k ((s'.drop l).take (h - l))) := .of_run fun X φ κ f a w hs => by
  have hv := hs.evs hx
  obtain ⟨A, c, hA, hc1, hc2, hc3⟩ := hv.sl_form
  rw [hA] at hv
  have hb := fun w => run_bounds (n := s'.length) (c := c) (l := l) (h := h) (m := c) (lo := lo.map a.eval) (hi := hi.map a.eval) (mx := none) (by simpa using Bd.lo (h0 := hs) hlo) (by
      rcases Bd.lo (h0 := hs) hhi with ⟨e1, e2⟩ | e1
      · exact .inl ⟨e1, rfl, e2⟩
      · exact .inr e1) (.inl ⟨rfl, rfl⟩) h1 (by omega) (Nat.le_refl _) w
  refine ⟨_, hv.piece h1 h2 (by omega) (Nat.le_refl c), fun w' _ => ?_⟩
  have := run_slice (A := A) (n := s'.length) (c := c) (l := l) (h := h) (m := c) (lo := lo.map a.eval) (hi := hi.map a.eval) (mx := none) hT hk he hb w'
  simp only [execOp, ho, hA, Option.map_none, Sem.run_bind, this, hsz]; rfl
/-- x[lo:hi:hi]: full -/
theorem pq_slice_fs {T e k l h : Nat} {x hi mx : Operand} {lo : Option Operand} {s' : List (List AV)} {i ie : TI} (ho : o.op = .slice T x lo (some hi) (some mx)) (hx : aev s x = .sl none k s') (hT : tt[T]? = some i) (hk : i.kd = .sl e) (he : tt[e]? = some ie) (hsz : ie.size = k)
    (hlo : Bd s lo 0 l) (hhi : Bd s (some hi) 0 h) (hmx : Bd s (some mx) 0 h) (h1 : l ≤ h) (h2 : h ≤ s'.length) : Pq Try.prog X s o (.fs k ((s'.drop l).take (h - l))) := .of_run fun X φ κ f a w hs => by
  have hv := hs.evs hx
  obtain ⟨A, c, hA, hc1, hc2, hc3⟩ := hv.sl_form
  rw [hA] at hv
  have some_ : ∀ {y : Operand} {d : Nat}, Bd s (some y) 0 d → ∃ k, (some y).map a.eval = some (.int k d) := fun hb => by
    cases hb with
    | int hx => exact ⟨_, by rw [Option.map_some, hs.evc hx]⟩
    | lit hx hz => subst hz; exact ⟨_, by rw [Option.map_some, hs.evc hx]⟩
  have hb := fun w => run_bounds (n := s'.length) (c := c) (l := l) (h := h) (m := h) (lo := lo.map a.eval) (hi := (some hi).map a.eval) (mx := (some mx).map a.eval) (by simpa using Bd.lo (h0 := hs) hlo) (.inr (some_ hhi)) (.inr (some_ hmx)) h1 (Nat.le_refl _) (by omega) w
  have hlen : ((s'.drop l).take (h - l)).length = h - l := by simp; omega
  refine ⟨_, .fs (hv.piece h1 h2 (Nat.le_refl h) (by omega)) ⟨_, by rw [hlen]⟩, fun w' _ => ?_⟩
  have := run_slice (A := A) (n := s'.length) (c := c) (l := l) (h := h) (m := h) (lo := lo.map a.eval) (hi := (some hi).map a.eval) (mx := (some mx).map a.eval) hT hk he hb w'
  simp only [execOp, ho, hA, Sem.run_bind, this, hsz]; rfl
end
end Go.Proofs.Ytkdbedbefojieaa
