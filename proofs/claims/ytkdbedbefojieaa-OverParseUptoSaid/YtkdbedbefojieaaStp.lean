/-
  ONE STEP, as a function of the state: an operation's value, and what has to be shown for it. Nothing here names a function of the program.
-/
import Derived.Test.YtkdbedbefojieaaK
import Derived.Test.YtkdbedbefojieaaDp
namespace Go.Proofs.Ytkdbedbefojieaa
set_option linter.unusedVariables false
set_option linter.unusedSimpArgs false
open Go.RowKit
set_option maxRecDepth 100000

def rowK : Kd → Bool
  | .st _ => true
  | .ar _ _ => true
  | _ => false
/-- load -/
def ldS (s : AS) (p : AV) (T : Nat) : Option (AV × Prop) :=
  match p, tt[T]? with
  | .bp b u off, some i =>
    match s.b[b]? with
    | some ⟨v, .c _ l⟩ =>
      match rowK i.kd with
      | true => match Nat.ble (off + i.size) l.length with
        | true => some (.ag ((l.drop off).take i.size), v = u)
        | false => none
      | false => match l[off]? with
        | some av => some (av, v = u)
        | none => none
    | _ => none
  | _, _ => none
/-- the address of a field -/
def fdS (p : AV) (T n : Nat) : Option (AV × Prop) :=
  match tt[T]? with
  | some i =>
    match i.kd with
    | .st fl =>
      match fl[n]? with
      | some (o, z) =>
        match Nat.ble 1 z, p with
        | true, .bp b u off => some (.bp b u (off + o), True)
        | true, .rp k r j off => some (.rp k r j (off + o), True)
        | true, .ep b u k j off => some (.ep b u k j (off + o), True)
        | _, _ => none
      | none => none
    | _ => none
  | none => none
/-- an operation of two operands -/
def biS (op : BinOp) (T : Nat) (x y : AV) : Option (AV × Prop) :=
  match x, y with
  | .sc (.int k i), .sc (.int k' j) =>
    match binI op k i j with
    | some v => some (.sc v, k' = k)
    | none => match op with
      | .quo => some (.sc (.int k (k.wrap (i.tdiv j))), k' = k ∧ j ≠ 0)
      | .rem => some (.sc (.int k (i.tmod j)), k' = k ∧ j ≠ 0)
      | .shl => some (.sc (.int k (k.wrap (i * 2 ^ (min j.toNat k.bits)))), 0 ≤ j)
      | .shr => some (.sc (.int k (i.fdiv (2 ^ (min j.toNat k.bits)))), 0 ≤ j)
      | _ => none
  | .sc (.bool p), .sc (.bool q) =>
    match binB op p q, tt[T]? with
    | some r, some i => some (.sc (.bool r), i.kd = .bo)
    | _, _ => none
  | .bp _ _ _, .sc (.pointer none) =>
    match nilB op false, tt[T]? with
    | some r, some i => match i.kd with
      | .pt _ => some (.sc (.bool r), True)
      | _ => none
    | _, _ => none
  | .sc (.pointer none), .sc (.pointer none) =>
    match nilB op true, tt[T]? with
    | some r, some i => match i.kd with
      | .pt _ => some (.sc (.bool r), True)
      | _ => none
    | _, _ => none
  | _, _ => none
/-- the address of an element -/
def ixS (s : AS) (p y : AV) (T : Nat) : Option (AV × Prop) :=
  match tt[T]?, y with
  | some i, .sc (.int _ j) =>
    match i.kd, p with
    | .sl e, .sl none k r => match tt[e]? with
      | some ie => some (.rp k r j.toNat 0, ie.size = k ∧ 0 ≤ j ∧ j < r.length)
      | none => none
    | .sl e, .hd b u => match tt[e]?, s.b[b]? with
      | some ie, some ⟨v, .r _ k r⟩ => some (.ep b u k j.toNat 0, v = u ∧ ie.size = k ∧ 0 ≤ j ∧ j < r.length)
      | _, _ => none
    | .sl e, .sb b u k n => match tt[e]? with
      | some ie => some (.bp b u (j.toNat * k), ie.size = k ∧ 0 ≤ j ∧ j < (n : Int))
      | none => none
    | .ar n e, .bp b u off => match tt[e]? with
      | some ie => some (.bp b u (off + j.toNat * ie.size), 0 ≤ j ∧ j < (n : Int))
      | none => none
    | _, _ => none
  | _, _ => none
/-- how long -/
def lnS (s : AS) (p : AV) (T : Nat) : Option (Int × Prop) :=
  match tt[T]? with
  | some i =>
    match i.kd, p with
    | .sl _, .sl _ _ r => some (r.length, True)
    | .sl _, .hd b u => match s.b[b]? with
      | some ⟨v, .r _ _ r⟩ => some (r.length, v = u)
      | _ => none
    | .sl _, .fs _ r => some (r.length, True)
    | .sl _, .sb _ _ _ n => some (n, True)
    | .sl _, .sc (.slice none 0 0) => some (0, True)
    | .sr, .sc (.string b) => some (b.size, True)
    | _, _ => none
  | none => none
/-- a struct's, an array's value out of parts -/
def bdS (s : AS) (T : Nat) (parts : List (Nat × Operand)) : Option (AV × Prop) :=
  match tt[T]? with
  | some i =>
    match i.kd, i.zero with
    | .st fl, some z =>
      match fl.all (fun p => Nat.ble 1 p.2), parts.all (fun p => (aev s p.2).known && (match fl[p.1]? with | some q => (aev s p.2).cells.length == q.2 && Nat.ble (q.1 + q.2) z.length | none => false)) with
      | true, true => some (.ag (bldS s fl parts (z.map fun c => .sc c.val)), True)
      | _, _ => none
    | .ar _ e, some z =>
      match tt[e]? with
      | some ie =>
        match parts.all (fun p => (aev s p.2).known && (aev s p.2).cells.length == ie.size && Nat.ble (p.1 * ie.size + ie.size) z.length) with
        | true => some (.ag (bldA s ie.size parts (z.map fun c => .sc c.val)), True)
        | false => none
      | none => none
    | _, _ => none
  | none => none
/-- a bound of a piece -/
def bdv (s : AS) (d : Int) : Option Operand → Option Int
  | none => some d
  | some x => match aev s x with
    | .sc (.int _ j) => some j
    | _ => none
def slS (s : AS) (T : Nat) (p : AV) (lo hi mx : Option Operand) : Option (AV × Prop) :=
  match tt[T]? with
  | some i =>
    match i.kd with
    | .sl e =>
      match tt[e]?, p with
      | some ie, .sl none k r =>
        match bdv s 0 lo, bdv s r.length hi, mx with
        | some l, some h, none => some (.sl none k ((r.drop l.toNat).take (h.toNat - l.toNat)), ie.size = k ∧ 0 ≤ l ∧ l ≤ h ∧ h ≤ r.length)
        | some l, some h, some m => match bdv s 0 (some m), hi with
          | some m', some _ => some (.fs k ((r.drop l.toNat).take (h.toNat - l.toNat)), ie.size = k ∧ 0 ≤ l ∧ l ≤ h ∧ h ≤ r.length ∧ m' = h)
          | _, _ => none
        | _, _, _ => none
      | some ie, .hd b u =>
        match s.b[b]?, lo, hi, mx with
        | some ⟨v, .r _ _ r⟩, none, some h, some m => match bdv s 0 (some h), bdv s 0 (some m) with
          | some h', some m' => some (.hf b u, v = u ∧ h' = r.length ∧ m' = r.length)
          | _, _ => none
        | _, _, _, _ => none
      | _, _ => none
    | _ => none
  | none => none
def stp (s : AS) : Op → Option (AV × Prop)
  | .move x => some (aev s x, True)
  | .assign x => some (aev s x, True)
  | .load T x => ldS s (aev s x) T
  | .fieldAddr T x n => fdS (aev s x) T n
  | .binOp op T x y _ => biS op T (aev s x) (aev s y)
  | .unOp .not _ x => match aev s x with
    | .sc (.bool p) => some (.sc (.bool (!p)), True)
    | _ => none
  | .unOp .neg _ x => match aev s x with
    | .sc (.int k i) => some (.sc (.int k (k.wrap (0 - i))), True)
    | _ => none
  | .extract x n => match aev s x with
    | .tu l => match l[n]? with
      | some av => some (av, True)
      | none => none
    | _ => none
  | .pick c x y => match aev s c with
    | .sc (.bool b) => some (match b with | true => aev s x | false => aev s y, True)
    | _ => none
  | .indexAddr T x y => ixS s (aev s x) (aev s y) T
  | .convert S T x => match aev s x, tt[S]?, tt[T]? with
    | .sc (.int _ i), some _, some j => match j.kd with
      | .it k => some (.sc (.int k (k.wrap i)), True)
      | _ => none
    | _, _, _ => none
  | .nilCheck x => match aev s x with
    | .bp b u off => some (.bp b u off, True)
    | .rp k r i off => some (.rp k r i off, True)
    | .ep b u k i off => some (.ep b u k i off, True)
    | _ => none
  | .build T parts => bdS s T parts.toList
  | .makeFunc (.func g) xs caps => match xs.toList with
    | [] => some (.fn g (caps.toList.map (aev s)), True)
    | _ => none
  | .slice T x lo hi mx => slS s T (aev s x) lo hi mx
  | _ => none

section
variable {X : Cx} {s : AS} {o : Oper} {av : AV} {p : Prop}
theorem pq_ldS {T : Nat} {x : Operand} (ho : o.op = .load T x) (h : ldS s (aev s x) T = some (av, p)) (hp : p) : Pq Try.prog X s o av := by
  unfold ldS at h
  split at h <;> try cases h
  rename_i hx hT
  split at h <;> try cases h
  rename_i hs
  split at h
  · split at h <;> try cases h
    subst hp
    exact pq_loadN ho hx hs hT ‹_› ‹_›
  · split at h <;> try cases h
    subst hp
    exact pq_load1 ho hx hs hT ‹_› ‹_›
theorem pq_fdS {T n : Nat} {x : Operand} (ho : o.op = .fieldAddr T x n) (h : fdS (aev s x) T n = some (av, p)) (hp : p) : Pq Try.prog X s o av := by
  unfold fdS at h
  split at h <;> try cases h
  split at h <;> try cases h
  split at h <;> try cases h
  split at h <;> try cases h
  · exact pq_field ho ‹_› ‹_› ‹_› ‹_› ‹_›
  · exact pq_field_rp ho ‹_› ‹_› ‹_› ‹_› ‹_›
  · exact pq_field_ep ho ‹_› ‹_› ‹_› ‹_› ‹_›
theorem pq_biS {op : BinOp} {T T' : Nat} {x y : Operand} (ho : o.op = .binOp op T x y T') (h : biS op T (aev s x) (aev s y) = some (av, p)) (hp : p) : Pq Try.prog X s o av := by
  unfold biS at h
  split at h <;> try cases h
  · rename_i hx hy
    split at h
    · injection h with h; injection h with h1 h2; subst h1 h2; subst hp
      exact pq_bin ho hx hy ‹_›
    · split at h <;> try cases h
      · obtain ⟨rfl, hj⟩ := hp; exact pq_quo ho hx hy hj
      · obtain ⟨rfl, hj⟩ := hp; exact pq_rem ho hx hy hj
      · exact pq_shl ho hx hy hp
      · exact pq_shr ho hx hy hp
  · rename_i hx hy
    split at h <;> try cases h
    exact pq_binB ho hx hy ‹_› (ty_bo ‹_› hp)
  · rename_i hx hy
    split at h <;> try cases h
    split at h <;> try cases h
    exact pq_nileq ho hx hy ‹_› ⟨‹_›, ‹_›⟩
  · rename_i hx hy
    split at h <;> try cases h
    split at h <;> try cases h
    exact pq_nilnil ho hx hy ‹_› ⟨‹_›, ‹_›⟩
theorem pq_ixS {T : Nat} {x y : Operand} (ho : o.op = .indexAddr T x y) (h : ixS s (aev s x) (aev s y) T = some (av, p)) (hp : p) : Pq Try.prog X s o av := by
  unfold ixS at h
  split at h <;> try cases h
  rename_i hT hy
  split at h <;> try cases h
  · rename_i hk hx
    split at h <;> try cases h
    obtain ⟨a, b, c⟩ := hp
    exact pq_index_ro ho hx hy hT hk ‹_› a b c
  · rename_i hk hx
    split at h <;> try cases h
    obtain ⟨rfl, a, b, c⟩ := hp
    exact pq_index_hd ho hx ‹_› hy hT hk ‹_› a b c
  · rename_i hk hx
    split at h <;> try cases h
    obtain ⟨a, b, c⟩ := hp
    exact pq_index_sb ho hx hy hT hk ‹_› a b c
  · rename_i hk hx
    split at h <;> try cases h
    obtain ⟨a, b⟩ := hp
    exact pq_index_ar ho hx hy hT hk ‹_› a b
theorem pq_lnS {T : Nat} {x : Operand} {j : Int} (ho : o.op = .call { callee := .builtin .len, args := #[x], argTypes := #[T] }) (h : lnS s (aev s x) T = some (j, p)) (hp : p) : Pq Try.prog X s o (.sc (.int .i64 j)) := by
  unfold lnS at h
  split at h <;> try cases h
  rename_i hT
  split at h <;> try cases h
  · exact pq_len_ro ho ‹_› hT ‹_›
  · split at h <;> try cases h
    subst hp
    exact pq_len_hd ho ‹_› ‹_› hT ‹_›
  · exact pq_len_fs ho ‹_› hT ‹_›
  · exact pq_len_sb ho ‹_› hT ‹_›
  · exact pq_len_nil ho ‹_› hT ‹_›
  · exact pq_len_str ho ‹_› hT ‹_›
theorem pq_bdS {T : Nat} {parts : Array (Nat × Operand)} (ho : o.op = .build T parts) (h : bdS s T parts.toList = some (av, p)) : Pq Try.prog X s o av := by
  unfold bdS at h
  split at h <;> try cases h
  rename_i hT
  split at h <;> try cases h
  · split at h <;> try cases h
    exact pq_build ho hT ‹_› ‹_› ‹_› ‹_›
  · split at h <;> try cases h
    split at h <;> try cases h
    exact pq_buildA ho hT ‹_› ‹_› ‹_› rfl ‹_›
theorem bd_of {d : Nat} {x : Option Operand} {j : Int} (h : bdv s d x = some j) (h0 : 0 ≤ j) : Bd s x d j.toNat := by
  cases x with
  | none => simp only [bdv, Option.some.injEq] at h; subst h; rw [Int.toNat_natCast]; exact .no
  | some x =>
    simp only [bdv] at h
    split at h
    · injection h with h; subst h
      exact .lit ‹_› (Int.toNat_of_nonneg h0).symm
    · cases h
theorem pq_slS {T : Nat} {x : Operand} {lo hi mx : Option Operand} (ho : o.op = .slice T x lo hi mx) (h : slS s T (aev s x) lo hi mx = some (av, p)) (hp : p) : Pq Try.prog X s o av := by
  unfold slS at h
  split at h <;> try cases h
  rename_i hT
  split at h <;> try cases h
  rename_i hk
  split at h <;> try cases h
  · rename_i he hx
    split at h <;> try cases h
    · rename_i hl hh
      obtain ⟨a, b, c, d⟩ := hp
      exact pq_slice_ro ho hx hT hk he a (bd_of (d := 0) hl b) (bd_of hh (by omega)) (by omega) (by omega)
    · rename_i hl hh
      split at h <;> try cases h
      rename_i hm
      obtain ⟨a, b, c, d, rfl⟩ := hp
      exact pq_slice_fs ho hx hT hk he a (bd_of (d := 0) hl b) (bd_of (d := 0) (by simpa only [bdv] using hh) (by omega)) (bd_of (d := 0) hm (by omega)) (by omega) (by omega)
  · rename_i he hx
    split at h <;> try cases h
    split at h <;> try cases h
    rename_i hh hm
    obtain ⟨rfl, rfl, hm'⟩ := hp
    rw [hm'] at hm
    have h1 := bd_of (d := 0) hh (by omega)
    have h2 := bd_of (d := 0) hm (by omega)
    rw [Int.toNat_natCast] at h1 h2
    exact pq_slice_hf ho hx ‹_› hT hk he h1 h2
theorem pq_stp {op : Op} (ho : o.op = op) (h : stp s op = some (av, p)) (hp : p) : Pq Try.prog X s o av := by
  unfold stp at h
  split at h
  · cases h; exact pq_move ho
  · cases h; exact pq_assign ho
  · exact pq_ldS ho h hp
  · exact pq_fdS ho h hp
  · exact pq_biS ho h hp
  · split at h <;> try cases h
    exact pq_not ho ‹_›
  · split at h <;> try cases h
    exact pq_neg ho ‹_›
  · split at h <;> try cases h
    split at h <;> try cases h
    exact pq_extract ho ‹_› ‹_›
  · split at h <;> try cases h
    rename_i b hb
    have := pq_pick (P := Try.prog) (X := X) ho hb
    cases b <;> exact this
  · exact pq_ixS ho h hp
  · split at h <;> try cases h
    split at h <;> try cases h
    rename_i hx hS hT _ _ hk
    exact pq_conv (j := ⟨.ot, 0, 0, none⟩) ho hx (by obtain ⟨d, _, hd, _⟩ := TI.parts (ty hS); exact ⟨d, hd⟩) (ty_it hT hk)
  · split at h <;> try cases h
    · exact pq_nilc ho ‹_›
    · exact pq_nilc_rp ho ‹_›
    · exact pq_nilc_ep ho ‹_›
  · exact pq_bdS ho h
  · split at h <;> try cases h
    rename_i hxs
    exact pq_mkf (by rw [ho, Array.toList_eq_nil_iff.1 hxs])
  · exact pq_slS ho h hp
  · cases h
variable {ops : Array Oper} {rest : List Oper} {Q : Exit → AS → Prop} {Qa : AS → Prop} {d : Option Nat} {ty : Nat} {pos : String} {aft : Array Edge} {op : Op}
theorem AP.s1 (h : stp s op = some (av, p)) (hp : p) (K : AP Try.prog X ops Q rest (s.put d av)) : AP Try.prog X ops Q (⟨d, op, ty, pos, aft, none⟩ :: rest) s := AP.pure rfl (pq_stp rfl h hp) K
theorem AQ.s1 (h : stp s op = some (av, p)) (hp : p) (K : AQ Try.prog X ops Qa rest (s.put d av)) : AQ Try.prog X ops Qa (⟨d, op, ty, pos, aft, none⟩ :: rest) s := AQ.pure rfl (pq_stp rfl h hp) K
theorem AP.s2 {T : Nat} {x : Operand} {j : Int} (h : lnS s (aev s x) T = some (j, p)) (hp : p) (K : AP Try.prog X ops Q rest (s.put d (.sc (.int .i64 j)))) : AP Try.prog X ops Q (⟨d, .call { callee := .builtin .len, args := #[x], argTypes := #[T] }, ty, pos, aft, none⟩ :: rest) s := AP.pure rfl (pq_lnS rfl h hp) K
theorem AQ.s2 {T : Nat} {x : Operand} {j : Int} (h : lnS s (aev s x) T = some (j, p)) (hp : p) (K : AQ Try.prog X ops Qa rest (s.put d (.sc (.int .i64 j)))) : AQ Try.prog X ops Qa (⟨d, .call { callee := .builtin .len, args := #[x], argTypes := #[T] }, ty, pos, aft, none⟩ :: rest) s := AQ.pure rfl (pq_lnS rfl h hp) K
theorem mapAt {α : Type} {enc : α → List AV} {l : List α} {i : Nat} (h : i < l.length) : (l.map enc)[i]? = some (enc (l[i]'h)) := by simp [h]
theorem AP.k_any {o : Oper} (h : AP Try.prog X ops Q (o :: rest) s) : AP Try.prog X ops Q (o :: rest) s := h
theorem AQ.k_any {o : Oper} (h : AQ Try.prog X ops Qa (o :: rest) s) : AQ Try.prog X ops Qa (o :: rest) s := h
end
theorem hks_of {ks : List (Nat × Nat)} {n : Nat} (h : ks.take n = (List.range n).map fun i => (i, 0)) : ∀ i, i < n → ks[i]? = some (i, 0) := fun i hi => by
  have : (ks.take n)[i]? = some (i, 0) := by rw [h]; simp [hi]
  rw [List.getElem?_take, if_pos hi] at this; exact this
/-! loops, their states by what turns -/
def setT : List AV → List (Nat × AV) → List AV
  | t, [] => t
  | t, (i, v) :: l => setT (t.set i v) l
def deT : List AV → List Nat → List AV
  | t, [] => t
  | t, i :: l => deT (t.set i .de) l
def setB : List Sl → List (Nat × Sl) → List Sl
  | b, [] => b
  | b, (i, v) :: l => setB (b.set i v) l
theorem Gh.refl (s : AS) : Gh s s := fun _ _ _ h => h
theorem Gh.trans {a b c : AS} (h1 : Gh a b) (h2 : Gh b c) : Gh a c := fun X x w h => h2 X x w (h1 X x w h)
section
variable {P : Program} {X : Cx} {t : List AV} {b : List Sl} {Q : Exit → AS → Prop}
/-- a loop: a : what turns in it; de: slots that are of no more use at its head -/
theorem cp_loopS {c : Code} {α : Type} (de : List Nat) (μ : α → Nat) (I : α → Prop) (T : α → List (Nat × AV)) (Bs : α → List (Nat × Sl)) (a0 : α) (h0 : I a0)
    (hw : Gh ⟨t, b⟩ ⟨setT (deT t de) (T a0), setB b (Bs a0)⟩)
    (round : ∀ a, I a → CP P X c (thenQ (fun s' => ∃ a', μ a' < μ a ∧ I a' ∧ Gh s' ⟨setT (deT t de) (T a'), setB b (Bs a')⟩) Q) ⟨setT (deT t de) (T a), setB b (Bs a)⟩) : CP P X (.loop c) Q ⟨t, b⟩ :=
  CP.gh hw (cp_loop (fun n s => ∃ a, n = μ a ∧ I a ∧ Gh s ⟨setT (deT t de) (T a), setB b (Bs a)⟩) (μ a0) ⟨a0, rfl, h0, Gh.refl _⟩ (by
    rintro n s ⟨a, rfl, ha, hg⟩
    refine CP.gh hg ((round a ha).mono fun e s' hs' => ?_)
    cases e with
    | normal => obtain ⟨a', h1, h2, h3⟩ := hs'; exact ⟨μ a', h1, a', rfl, h2, h3⟩
    | _ => exact hs'))
/-- a cut: what follows x is gone through once -/
theorem cp_cutS {x y : Code} {α : Type} (de : List Nat) (I : α → Prop) (T : α → List (Nat × AV)) (Bs : α → List (Nat × Sl))
    (hx : CP P X x (thenQ (fun s' => ∃ a', I a' ∧ Gh s' ⟨setT (deT t de) (T a'), setB b (Bs a')⟩) Q) ⟨t, b⟩) (hy : ∀ a, I a → CP P X y Q ⟨setT (deT t de) (T a), setB b (Bs a)⟩) : CP P X (.seq x y) Q ⟨t, b⟩ :=
  cp_seq (hx.mono fun e s' hs' => by
    cases e with
    | normal => obtain ⟨a', h1, h2⟩ := hs'; exact CP.gh h2 (hy a' h1)
    | _ => exact hs')
end
/-! an array of one's own, given up: it may be read -/
mutual
inductive FzV (b u k : Nat) (s0 : List (List AV)) : AV → AV → Prop
  | same {a} : FzV b u k s0 a a
  | hd : FzV b u k s0 (.hd b u) (.sl none k s0)
  | ag {l l'} : FzC b u k s0 l l' → FzV b u k s0 (.ag l) (.ag l')
inductive FzC (b u k : Nat) (s0 : List (List AV)) : List AV → List AV → Prop
  | nil : FzC b u k s0 [] []
  | same {l} : FzC b u k s0 l l
  | cons {x x' l l'} : FzV b u k s0 x x' → FzC b u k s0 l l' → FzC b u k s0 (x :: l) (x' :: l')
end
inductive FzB (b u k : Nat) (s0 : List (List AV)) : List Sl → List Sl → Prop
  | nil : FzB b u k s0 [] []
  | same {e l l'} : FzB b u k s0 l l' → FzB b u k s0 (e :: l) (e :: l')
  | c {v T c c' l l'} (hc : FzC b u k s0 c c') (hl : FzB b u k s0 l l') : FzB b u k s0 (⟨v, .c T c⟩ :: l) (⟨v, .c T c'⟩ :: l')
mutual
theorem RV.fz {w : World} {φ : Fi} {κ : Ka} {R : Nat → Prop} {b u k : Nat} {s0 : List (List AV)} {v0 : Value} (hκ : κ b u = some v0) (hv : RV w φ κ R (.sl none k s0) v0 Ct.z) : ∀ {x x' : AV}, FzV b u k s0 x x' → ∀ {v : Value} {S : Ct}, RV w φ κ R x v S → RV w φ κ R x' v S
  | _, _, .same, _, _, h => h
  | _, _, .hd, _, _, h => by
    cases h with
    | hd h1 _ => rw [hκ] at h1; injection h1 with h1; subst h1; exact hv
  | _, _, .ag hc, _, _, h => by cases h with | ag h1 h2 => exact .ag (RC.fz hκ hv hc h1) h2
theorem RC.fz {w : World} {φ : Fi} {κ : Ka} {R : Nat → Prop} {b u k : Nat} {s0 : List (List AV)} {v0 : Value} (hκ : κ b u = some v0) (hv : RV w φ κ R (.sl none k s0) v0 Ct.z) : ∀ {l l' : List AV}, FzC b u k s0 l l' → ∀ {vs : List Value} {S : Ct}, RC w φ κ R l vs S → RC w φ κ R l' vs S
  | _, _, .nil, _, _, h => h
  | _, _, .same, _, _, h => h
  | _, _, .cons h1 h2, _, _, h => by cases h with | cons a b c => exact .cons (RV.fz hκ hv h1 a) (RC.fz hκ hv h2 b) c
end
theorem FzB.length {b u k : Nat} {s0 : List (List AV)} : ∀ {l l' : List Sl}, FzB b u k s0 l l' → l'.length = l.length
  | _, _, .nil => rfl
  | _, _, .same h => by simp [h.length]
  | _, _, .c _ h => by simp [h.length]
theorem FzB.at_ {b u k : Nat} {s0 : List (List AV)} {l l' : List Sl} (h : FzB b u k s0 l l') : ∀ {i : Nat} {e' : Sl}, l'[i]? = some e' → ∃ e, l[i]? = some e ∧ e.u = e'.u ∧ (e = e' ∨ ∃ T c c', e.b = .c T c ∧ e'.b = .c T c' ∧ FzC b u k s0 c c') := by
  induction h with
  | nil => intro i e' h; simp at h
  | @same e l l' h1 ih =>
    intro i e' h
    cases i with
    | zero => simp at h; subst h; exact ⟨e, by simp, rfl, .inl rfl⟩
    | succ i => obtain ⟨e, a, b⟩ := ih (i := i) (by simpa using h); exact ⟨e, by simpa using a, b⟩
  | @c v T c c' l l' hc h1 ih =>
    intro i e' h
    cases i with
    | zero => simp at h; subst h; exact ⟨⟨v, .c T c⟩, by simp, rfl, .inr ⟨T, c, c', rfl, rfl, hc⟩⟩
    | succ i => obtain ⟨e, a, b⟩ := ih (i := i) (by simpa using h); exact ⟨e, by simpa using a, b⟩
theorem gh_fz {s : AS} {b u k : Nat} {e : TypeId} {rows s0 : List (List AV)} {t' : List AV} {b' : List Sl} (hb : s.b[b]? = some ⟨u, .r e k rows⟩) (hs : roE rows = s0) (ht : FzC b u k s0 s.t t') (hb' : FzB b u k s0 (s.b.set b ⟨u, .x⟩) b') : Gh s ⟨t', b'⟩ := by
  rintro X a w ⟨X', φ, κ, f, hX, h⟩
  subst hs
  obtain ⟨X1, v0, hX1, hκ, hv0, h1⟩ := h.frz hb
  refine ⟨X1, φ, κ, updF f b Ct.z, hX.trans hX1, { tm := RC.fz hκ hv0 ht h1.tm, df := h1.df, sl := fun i e' hi => ?_, one := fun x => ?_, own := fun x hx => ?_, rd := fun x hx => ?_, fr := h1.fr, bas := h1.bas, new := fun i v hv => ?_ }⟩
  · obtain ⟨e0, a1, a2, a3⟩ := hb'.at_ hi
    have h2 := h1.sl i e0 a1
    rcases a3 with rfl | ⟨T, c, c', b1, b2, b3⟩
    · exact h2
    · rw [b1, a2] at h2
      rw [b2]
      generalize updF f b Ct.z i = S at h2
      cases h2 with
      | c x1 x2 x3 x4 x5 => exact .c x1 x2 (RC.fz hκ hv0 b3 x3) x4 x5
  · have := h1.one x; rw [hb'.length]; exact this
  · have := h1.own x (by rw [hb'.length] at hx; exact hx); exact this
  · have := h1.rd x hx; rw [hb'.length]; exact this
  · refine h1.new i v fun e0 he0 => ?_
    have hil : i < b'.length := by rw [hb'.length]; exact (List.getElem?_eq_some_iff.1 he0).1
    obtain ⟨e1, a1, a2, _⟩ := hb'.at_ (List.getElem?_eq_getElem hil)
    rw [he0] at a1; injection a1 with a1; subst a1
    rw [a2]; exact hv _ (List.getElem?_eq_getElem hil)
end Go.Proofs.Ytkdbedbefojieaa
