/-
  SLICES THAT ARE MADE AND GROW, by abstract values. Nothing here names a function of the program.
-/
import Derived.Test.YtkdbedbefojieaaEnter
import Derived.Test.YtkdbedbefojieaaOp3
import Derived.Maps.AppendAt
import Derived.ArgAppend
import Derived.Deep.RegionLawGrows
namespace Go.Proofs.Ytkdbedbefojieaa
set_option linter.unusedVariables false
set_option linter.unusedSimpArgs false
open Go.RowKit
set_option maxRecDepth 100000

/-- rows of k cells -/
def chunks (k : Nat) : Nat → List AV → List (List AV)
  | 0, _ => []
  | n + 1, l => l.take k :: chunks k n (l.drop k)
def zrow (z : List ZC) : Nat → List AV
  | 0 => []
  | n + 1 => z.map (fun c => AV.sc c.val) ++ zrow z n
def bldA (s : AS) (k : Nat) : List (Nat × Operand) → List AV → List AV
  | [], l => l
  | (i, x) :: r, l => bldA s k r (spl l (i * k) (aev s x).cells)
section
variable {X : Cx} {φ φ' : Fi} {κ κ' : Ka} {f : Nat → Ct} {L L' : Ct} {s : AS} {a : Act} {w w' : World} {R : Nat → Prop}
theorem RE.chunks_ {k : Nat} (hk : 0 < k) : ∀ (n : Nat) {l : List AV} {us : List Value} {S : Ct}, RC w φ κ R l us S → l.length = n * k → (∀ u ∈ us, u.oneCell' = true) → (∀ x ∈ l, x.leaf = true) → RE w φ κ R k (chunks k n l) us S
  | 0, l, us, S, h, hl, _, _ => by
    have : l = [] := List.eq_nil_of_length_eq_zero (by simpa using hl)
    subst this; cases h; exact .nil
  | n + 1, l, us, S, h, hl, ho, hlf => by
    have split : ∀ (k : Nat) {l : List AV} {us : List Value} {S : Ct}, RC w φ κ R l us S → ∃ S1 S2, RC w φ κ R (l.take k) (us.take k) S1 ∧ RC w φ κ R (l.drop k) (us.drop k) S2 ∧ ∀ x, S x = S1 x + S2 x := by
      intro k
      induction k with
      | zero => intro l us S h; exact ⟨Ct.z, S, by simpa using RC.nil, by simpa using h, fun x => by simp [Ct.z]⟩
      | succ k ih =>
        intro l us S h
        cases h with
        | nil => exact ⟨Ct.z, Ct.z, by simpa using RC.nil, by simpa using RC.nil, fun x => rfl⟩
        | cons h1 h2 h3 =>
          obtain ⟨S1, S2, e1, e2, e3⟩ := ih h2
          exact ⟨_, S2, .cons h1 e1 fun _ => rfl, e2, fun x => by rw [h3, e3]; (try dsimp only); omega⟩
    obtain ⟨S1, S2, e1, e2, e3⟩ := split k h
    have hlen := h.length
    have h1 : (us.take k).length = k := by rw [List.length_take, hlen, hl, Nat.add_mul]; omega
    have h2 : (l.drop k).length = n * k := by rw [List.length_drop, hl, Nat.add_mul]; omega
    have := RE.cons e1 h1 ⟨fun u hu => ho u (List.mem_of_mem_take hu), fun x hx => hlf x (List.mem_of_mem_take hx)⟩ (RE.chunks_ hk n e2 h2 (fun u hu => ho u (List.mem_of_mem_drop hu)) fun x hx => hlf x (List.mem_of_mem_drop hx)) e3
    rwa [List.take_append_drop] at this
theorem zrow_at {z : List ZC} (hz : 0 < z.length) : ∀ (n i : Nat), i < n * z.length → (zrow z n)[i]? = some (.sc (z[i % z.length]'(Nat.mod_lt _ hz)).val)
  | 0, i, h => by simp at h
  | n + 1, i, h => by
    by_cases hi : i < z.length
    · rw [zrow, List.getElem?_append_left (by simpa using hi)]
      simp [Nat.mod_eq_of_lt hi, List.getElem?_eq_getElem hi]
    · rw [zrow, List.getElem?_append_right (by simp; omega)]
      rw [List.length_map, zrow_at hz n (i - z.length) (by rw [Nat.add_mul] at h; omega)]
      congr 3
      have := Nat.mod_eq_sub_mod (Nat.le_of_not_lt hi)
      simp only [this]
theorem zrow_length (z : List ZC) : ∀ n, (zrow z n).length = n * z.length
  | 0 => by simp [zrow]
  | n + 1 => by simp [zrow, zrow_length z n, Nat.add_mul, Nat.add_comm]
theorem chunks_length (k : Nat) : ∀ (n : Nat) (l : List AV), (chunks k n l).length = n
  | 0, _ => rfl
  | n + 1, l => by simp [chunks, chunks_length k n]
theorem ZC.one (c : ZC) : c.val.oneCell' = true := by cases c <;> rfl

theorem foldl_spl : ∀ (us : List Value) (j off : Nat) (cs : Array Value), (us.zipIdx j).foldl (fun (cs : Array Value) (p : Value × Nat) => cs.setIfInBounds (off + p.2) p.1) cs = (spl cs.toList (off + j) us).toArray
  | [], j, off, cs => by simp [spl]
  | u :: us, j, off, cs => by
    simp only [List.zipIdx_cons, List.foldl_cons, spl]
    rw [foldl_spl us (j + 1) off]
    simp [Nat.add_assoc]
theorem fill_spl {size : Nat} : ∀ (parts : List (Nat × Value)) (cs : Array Value), (∀ p ∈ parts, p.2.cells.size = size ∧ p.1 * size + size ≤ cs.size) →
    Instr.fill (fun i => some (i * size, size)) cs parts = some (parts.foldl (fun (l : List Value) p => spl l (p.1 * size) p.2.cells.toList) cs.toList).toArray
  | [], cs, _ => by simp [Instr.fill]
  | (i, v) :: r, cs, h => by
    have h1 := h (i, v) (by simp)
    simp only at h1
    have e : v.cells.zipIdx.foldl (fun cs (p : Value × Nat) => cs.setIfInBounds (i * size + p.2) p.1) cs = (spl cs.toList (i * size) v.cells.toList).toArray := by
      have := foldl_spl v.cells.toList 0 (i * size) cs
      rw [← Array.foldl_toList, Array.toList_zipIdx]
      simpa using this
    rw [Instr.fill]
    simp only [h1.1, ne_eq, not_true_eq_false, decide_false, Bool.false_or]
    rw [if_neg (by simp; omega)]
    rw [show (v.cells.zipIdx.foldl (fun cs x => match x with | (c, j) => cs.setIfInBounds (i * size + j) c) cs) = v.cells.zipIdx.foldl (fun cs (p : Value × Nat) => cs.setIfInBounds (i * size + p.2) p.1) cs from rfl, e]
    rw [fill_spl r _ (fun p hp => by
      have := h p (List.mem_cons_of_mem _ hp)
      refine ⟨this.1, ?_⟩
      simp [spl_length]; omega)]
    simp

variable {ops : Array Oper} {rest : List Oper} {o : Oper} {av : AV} {Q : Exit → AS → Prop}
theorem bld_rc {k : Nat} : ∀ (ps : List (Nat × Operand)) {l : List AV} {vs : List Value}, SatW X φ κ f L s a w → RC w φ κ X.R l vs Ct.z → (∀ p ∈ ps, (aev s p.2).known = true) →
    RC w φ κ X.R (bldA s k ps l) ((ps.map fun p => (p.1, a.eval p.2)).foldl (fun (l : List Value) p => spl l (p.1 * k) p.2.cells.toList) vs) Ct.z
  | [], l, vs, _, hr, _ => hr
  | (i, x) :: r, l, vs, h, hr, hk => by
    obtain ⟨h1, _⟩ := (h.ev x).cells_ (hk (i, x) (by simp))
    exact bld_rc r h (hr.spl_ h1) fun p hp => hk p (List.mem_cons_of_mem _ hp)
theorem bld_one {k : Nat} : ∀ (ps : List (Nat × Operand)) {vs : List Value}, SatW X φ κ f L s a w → (∀ v ∈ vs, v.oneCell' = true) → (∀ p ∈ ps, (aev s p.2).known = true) →
    ∀ v ∈ ((ps.map fun p => (p.1, a.eval p.2)).foldl (fun (l : List Value) p => spl l (p.1 * k) p.2.cells.toList) vs), v.oneCell' = true
  | [], vs, _, hr, _ => hr
  | (i, x) :: r, vs, h, hr, hk => by
    obtain ⟨_, h1⟩ := (h.ev x).cells_ (hk (i, x) (by simp))
    exact bld_one r h (spl_one hr h1) fun p hp => hk p (List.mem_cons_of_mem _ hp)
theorem bldA_length (s : AS) (k : Nat) : ∀ (ps : List (Nat × Operand)) (l : List AV), (bldA s k ps l).length = l.length
  | [], _ => rfl
  | (i, x) :: r, l => by rw [bldA, bldA_length s k r, spl_length]
/-- a slice's literal -/
theorem ap_buildSlice {T e n k : Nat} {parts : Array (Nat × Operand)} {i ie : TI} {z : List ZC} {fl fl' : List AV} {b' : List Sl} {rows : List (List AV)} (hg : o.guard = none) (ho : o.op = .buildSlice T n parts) (hT : tt[T]? = some i) (hk : i.kd = .sl e) (he : tt[e]? = some ie) (hz : ie.zero = some z)
    (hsz : ie.size = k) (hk0 : Nat.ble 1 k = true) (hn : Nat.ble (n * k) 1000000 = true) (hkn : parts.toList.all (fun p => (aev s p.2).known && ((aev s p.2).cells.length == k) && Nat.ble (p.1 * k + k) (n * k)) = true)
    (hfl : bldA s k parts.toList (zrow z n) = fl) (hcl : ClsC s.b fl fl' b') (hrows : chunks k n fl' = rows)
    (K : AP Try.prog X ops Q rest (AS.put ⟨s.t, (newS b' (.r e k rows)).2⟩ o.dst (.hd (newS b' (.r e k rows)).1.1 (newS b' (.r e k rows)).1.2))) : AP Try.prog X ops Q (o :: rest) s :=
  .runG hg (fun X φ κ f a w h => by
    have hk0 := Nat.le_of_ble_eq_true hk0
    have hn := Nat.le_of_ble_eq_true hn
    obtain ⟨d, j, hd, hj, _, hjs, _, hzz⟩ := TI.parts (ty he)
    obtain ⟨zv, hzv, hzc, hzl, _⟩ := hzz z hz
    have hzk : z.length = k := by rw [hzl, hsz]
    have hall : ∀ p ∈ parts.toList, (aev s p.2).known = true ∧ (aev s p.2).cells.length = k ∧ p.1 * k + k ≤ n * k := fun p hp => by
      have := List.all_eq_true.1 hkn p hp
      simp only [Bool.and_eq_true, beq_iff_eq] at this
      exact ⟨this.1.1, this.1.2, Nat.le_of_ble_eq_true this.2⟩
    have hzs : zv.cells.size = k := by rw [← Array.length_toList, hzc]; simpa using hzk
    have hrow : RC w φ κ X.R (zrow z n) ((Array.range (n * k)).map (fun i => zv.cells[i % zv.cells.size]!)).toList Ct.z := RC.of_at (by simp [zrow_length, hzk]) fun i b hi => by
      have hil : i < n * k := by have := (List.getElem?_eq_some_iff.1 hi).1; rwa [zrow_length, hzk] at this
      rw [zrow_at (by omega) n i (by rwa [hzk])] at hi
      injection hi with hi; subst hi
      refine ⟨_, ?_, .sc (ZC.one _)⟩
      have hm : i % z.length < zv.cells.toList.length := by rw [hzc]; simpa using Nat.mod_lt _ (by omega)
      simp only [Array.toList_map, Array.toList_range, List.getElem?_map, List.getElem?_range hil, Option.map_some, Option.some.injEq]
      rw [show zv.cells.size = z.length by omega]
      rw [getElem!_pos zv.cells (i % z.length) (by simpa using hm)]
      have : zv.cells.toList[i % z.length]'hm = (z[i % z.length]'(Nat.mod_lt _ (by omega))).val := by simp only [hzc, List.getElem_map]
      simpa using this
    have hone0 : ∀ v ∈ ((Array.range (n * k)).map (fun i => zv.cells[i % zv.cells.size]!)).toList, v.oneCell' = true := fun v hv => by
      obtain ⟨i, hi, rfl⟩ := List.mem_iff_getElem.1 hv
      have hil : i < n * k := by simpa using hi
      obtain ⟨v, hv1, hv2⟩ := hrow.at_ (i := i) (zrow_at (by omega) n i (by rwa [hzk]))
      rw [List.getElem?_eq_getElem hi] at hv1; injection hv1 with hv1
      rw [hv1]; have := RV.sc_inv hv2; rw [this]; exact ZC.one _
    have hrc := bld_rc (k := k) parts.toList h hrow fun p hp => (hall p hp).1
    have hon := bld_one (k := k) parts.toList h hone0 fun p hp => (hall p hp).1
    rw [hfl] at hrc
    generalize hcells : (List.foldl (fun (l : List Value) (p : Nat × Value) => spl l (p.1 * k) p.2.cells.toList) ((Array.range (n * k)).map (fun i => zv.cells[i % zv.cells.size]!)).toList (parts.toList.map fun p => (p.1, a.eval p.2))) = cs at hrc hon
    obtain ⟨X1, S, f1, hX1, h1, h1', h2⟩ := SatW.cls (t := s.t) hcl h hrc
    have hfl' : fl'.length = n * k := by rw [← h1.length, hrc.length, ← hfl, bldA_length, zrow_length, hzk]
    have hre := RE.chunks_ hk0 n h1 hfl' hon h1'
    rw [hrows] at hre
    have hlr : rows.length = n := by rw [← hrows]; exact chunks_length _ _ _
    have hcl : cs.length = n * k := by rw [hrc.length, ← hfl, bldA_length, zrow_length, hzk]
    have hsl := ty_sl hT hk
    have hrun : (execOp a.eval o).run Try.prog w = .ok (.value (.slice (some ⟨w.heap.size, 0, none⟩) n n)) (w.alloc (.cells cs.toArray e)) := by
      have hfill : Instr.fill (fun i => some (i * k, k)) ((Array.range (n * k)).map (fun i => zv.cells[i % zv.cells.size]!)) ((parts.map fun (i, x) => (i, a.eval x)).toList) = some cs.toArray := by
        rw [fill_spl]
        · rw [← hcells]; simp
        · intro p hp
          simp only [Array.toList_map, List.mem_map] at hp
          obtain ⟨q, hq, rfl⟩ := hp
          obtain ⟨a1, a2, a3⟩ := hall q hq
          obtain ⟨hc1, _⟩ := (h.ev q.2).cells_ a1
          have := hc1.length
          simp at this
          exact ⟨by show (a.eval q.2).cells.size = k; omega, by simpa using a3⟩
      simp only [execOp, ho, Instr.buildSlice, Sem.run_bind, run_underlying hsl, Result.andThen_ok, ty_size he, hsz]
      rw [if_neg (by omega)]
      by_cases h0 : n * k = 0
      · simp only [h0, if_true, Sem.run_pure, Result.andThen_ok, Sem.run_bind]
        have hcs : cs = [] := List.eq_nil_of_length_eq_zero (by omega)
        subst hcs
        have hn0 : n = 0 := by rcases Nat.mul_eq_zero.1 h0 with h | h <;> omega
        subst hn0
        have hp0 : parts.toList = [] := by
          cases hpl : parts.toList with
          | nil => rfl
          | cons p r => have := (hall p (by rw [hpl]; simp)).2.2; simp at this; omega
        have : (parts.map fun (i, x) => (i, a.eval x)).toList = [] := by simp [hp0]
        rw [this]
        have h9 : (Array.map (fun x => (#[] : Array Value)[x % (#[] : Array Value).size]!) (Array.range 0)) = #[] := by simp
        rw [h9]
        rfl
      · simp only [h0, if_false]
        have hzr : (zeroValue e).run Try.prog w = .ok zv w := by simp [zeroValue, typeInfo, hj, hzv, go_sem]
        simp only [Sem.run_bind, hzr, Result.andThen_ok, Sem.run_pure, hfill]
        rfl
    obtain ⟨φ', κ', f', e1, e2, e3, e4, e5⟩ := h2.newS_ (w' := w.alloc (.cells cs.toArray e)) (B := .r e k rows) (g := fun x => (if x = w.heap.size then 1 else 0) + S x) (L' := Ct.z) none (some (.slice (some ⟨w.heap.size, 0, none⟩) n n)) (by simp) rfl rfl rfl
      (fun x hx _ => Below.heap_alloc w _ x hx)
      (fun φ' κ' j u a b c d => .r d (by
        have hkeep := RE.keep (w' := w.alloc (.cells cs.toArray e)) (fun x hx => Below.heap_alloc w _ x (h2.blk (.inl hx))) (RE.any φ' κ' hre) (fun x hx => Below.heap_alloc w _ x (h2.own x (by (try dsimp only); omega)).1)
        have := RV.ow (e := e) (cap := n) (cur := cs.toArray) hkeep (heap_alloc_new w _) (by omega) (by unfold maxLen; have : n ≤ n * k := Nat.le_mul_of_pos_right _ hk0; omega) (by simpa using hcl) (by rw [hlr]; exact List.take_of_length_le (by simp; omega)) fun _ => rfl
        rw [hlr] at this; exact this))
      (fun x hx => by simp only [Ct.z]; rw [if_neg (by omega)]; omega)
      (fun x hx => by
        have h3 := h2.own x
        dsimp only at h3
        simp only [Ct.z]
        have : S x = 0 := by
          by_cases hS : S x = 0
          · exact hS
          · have := (h3 (by omega)).1; omega
        rw [this]
        split <;> simp_all)
    exact ⟨X1, _, _, φ', κ', f', hX1, hrun, e5.puts o.dst (.hd e4 rfl)⟩) K

/-- .. as the cells of a variable: what holds pointers -/
theorem ap_bslB {T e n k : Nat} {parts : Array (Nat × Operand)} {i ie : TI} {z : List ZC} {fl : List AV} (hg : o.guard = none) (ho : o.op = .buildSlice T n parts) (hT : tt[T]? = some i) (hk : i.kd = .sl e) (he : tt[e]? = some ie) (hz : ie.zero = some z)
    (hsz : ie.size = k) (hk0 : Nat.ble 1 k = true) (hn : Nat.ble (n * k) 1000000 = true) (hkn : parts.toList.all (fun p => (aev s p.2).known && ((aev s p.2).cells.length == k) && Nat.ble (p.1 * k + k) (n * k)) = true)
    (hn0 : Nat.ble 1 n = true) (hfl : bldA s k parts.toList (zrow z n) = fl)
    (K : AP Try.prog X ops Q rest (AS.put ⟨s.t, (newS s.b (.c e fl)).2⟩ o.dst (.sb (newS s.b (.c e fl)).1.1 (newS s.b (.c e fl)).1.2 k n))) : AP Try.prog X ops Q (o :: rest) s :=
  .run hg (fun X φ κ f a w h => by
    have hk0 := Nat.le_of_ble_eq_true hk0
    have hn := Nat.le_of_ble_eq_true hn
    have hn0 := Nat.le_of_ble_eq_true hn0
    obtain ⟨d, j, hd, hj, _, hjs, _, hzz⟩ := TI.parts (ty he)
    obtain ⟨zv, hzv, hzc, hzl, _⟩ := hzz z hz
    have hzk : z.length = k := by rw [hzl, hsz]
    have hall : ∀ p ∈ parts.toList, (aev s p.2).known = true ∧ (aev s p.2).cells.length = k ∧ p.1 * k + k ≤ n * k := fun p hp => by
      have := List.all_eq_true.1 hkn p hp
      simp only [Bool.and_eq_true, beq_iff_eq] at this
      exact ⟨this.1.1, this.1.2, Nat.le_of_ble_eq_true this.2⟩
    have hzs : zv.cells.size = k := by rw [← Array.length_toList, hzc]; simpa using hzk
    have hrow : RC w φ κ X.R (zrow z n) ((Array.range (n * k)).map (fun i => zv.cells[i % zv.cells.size]!)).toList Ct.z := RC.of_at (by simp [zrow_length, hzk]) fun i b hi => by
      have hil : i < n * k := by have := (List.getElem?_eq_some_iff.1 hi).1; rwa [zrow_length, hzk] at this
      rw [zrow_at (by omega) n i (by rwa [hzk])] at hi
      injection hi with hi; subst hi
      refine ⟨_, ?_, .sc (ZC.one _)⟩
      have hm : i % z.length < zv.cells.toList.length := by rw [hzc]; simpa using Nat.mod_lt _ (by omega)
      simp only [Array.toList_map, Array.toList_range, List.getElem?_map, List.getElem?_range hil, Option.map_some, Option.some.injEq]
      rw [show zv.cells.size = z.length by omega]
      rw [getElem!_pos zv.cells (i % z.length) (by simpa using hm)]
      have : zv.cells.toList[i % z.length]'hm = (z[i % z.length]'(Nat.mod_lt _ (by omega))).val := by simp only [hzc, List.getElem_map]
      simpa using this
    have hone0 : ∀ v ∈ ((Array.range (n * k)).map (fun i => zv.cells[i % zv.cells.size]!)).toList, v.oneCell' = true := fun v hv => by
      obtain ⟨i, hi, rfl⟩ := List.mem_iff_getElem.1 hv
      have hil : i < n * k := by simpa using hi
      obtain ⟨v, hv1, hv2⟩ := hrow.at_ (i := i) (zrow_at (by omega) n i (by rwa [hzk]))
      rw [List.getElem?_eq_getElem hi] at hv1; injection hv1 with hv1
      rw [hv1]; have := RV.sc_inv hv2; rw [this]; exact ZC.one _
    have hrc := bld_rc (k := k) parts.toList h hrow fun p hp => (hall p hp).1
    have hon := bld_one (k := k) parts.toList h hone0 fun p hp => (hall p hp).1
    rw [hfl] at hrc
    generalize hcells : (List.foldl (fun (l : List Value) (p : Nat × Value) => spl l (p.1 * k) p.2.cells.toList) ((Array.range (n * k)).map (fun i => zv.cells[i % zv.cells.size]!)).toList (parts.toList.map fun p => (p.1, a.eval p.2))) = cs at hrc hon
    have hcl : cs.length = n * k := by rw [hrc.length, ← hfl, bldA_length, zrow_length, hzk]
    have hsl := ty_sl hT hk
    have hrun : (execOp a.eval o).run Try.prog w = .ok (.value (.slice (some ⟨w.heap.size, 0, none⟩) n n)) (w.alloc (.cells cs.toArray e)) := by
      have hfill : Instr.fill (fun i => some (i * k, k)) ((Array.range (n * k)).map (fun i => zv.cells[i % zv.cells.size]!)) ((parts.map fun (i, x) => (i, a.eval x)).toList) = some cs.toArray := by
        rw [fill_spl]
        · rw [← hcells]; simp
        · intro p hp
          simp only [Array.toList_map, List.mem_map] at hp
          obtain ⟨q, hq, rfl⟩ := hp
          obtain ⟨a1, a2, a3⟩ := hall q hq
          obtain ⟨hc1, _⟩ := (h.ev q.2).cells_ a1
          have := hc1.length
          simp at this
          exact ⟨by show (a.eval q.2).cells.size = k; omega, by simpa using a3⟩
      simp only [execOp, ho, Instr.buildSlice, Sem.run_bind, run_underlying hsl, Result.andThen_ok, ty_size he, hsz]
      rw [if_neg (by omega)]
      by_cases h0 : n * k = 0
      · simp only [h0, if_true, Sem.run_pure, Result.andThen_ok, Sem.run_bind]
        have hcs : cs = [] := List.eq_nil_of_length_eq_zero (by omega)
        subst hcs
        have hn0 : n = 0 := by rcases Nat.mul_eq_zero.1 h0 with h | h <;> omega
        subst hn0
        have hp0 : parts.toList = [] := by
          cases hpl : parts.toList with
          | nil => rfl
          | cons p r => have := (hall p (by rw [hpl]; simp)).2.2; simp at this; omega
        have : (parts.map fun (i, x) => (i, a.eval x)).toList = [] := by simp [hp0]
        rw [this]
        have h9 : (Array.map (fun x => (#[] : Array Value)[x % (#[] : Array Value).size]!) (Array.range 0)) = #[] := by simp
        rw [h9]
        rfl
      · simp only [h0, if_false]
        have hzr : (zeroValue e).run Try.prog w = .ok zv w := by simp [zeroValue, typeInfo, hj, hzv, go_sem]
        simp only [Sem.run_bind, hzr, Result.andThen_ok, Sem.run_pure, hfill]
        rfl
    obtain ⟨φ', κ', f', e1, e2, e3, e4, e5⟩ := h.newS_ (w' := w.alloc (.cells cs.toArray e)) (B := .c e fl) (L' := Ct.z) (g := fun x => if x = w.heap.size then 1 else 0) (some w.heap.size) none (by simp) rfl rfl rfl
      (fun x hx _ => Below.heap_alloc w _ x hx) (fun φ' κ' j u a b c d => RS.made hrc hon (fun x hx => h.blk (.inl hx)) φ' κ' a b c)
      (fun x hx => by simp [Ct.z]; omega) (fun x hx => by simp only [Ct.z]; split <;> simp_all)
    exact ⟨_, _, φ', κ', f', hrun, e5.puts o.dst (.sb e3 (by unfold maxLen; have : n ≤ n * k := Nat.le_mul_of_pos_right _ hk0; omega))⟩) K
/-! append -/
/-- what append makes of a row of one's own and cells that can be read -/
theorem run_append_rv {T e k : Nat} {i ie : TI} {s1 s2 : List (List AV)} {v sv : Value} {S1 S2 : Ct} {us2 : List Value} (hT : tt[T]? = some i) (hk : i.kd = .sl e) (he : tt[e]? = some ie) (hz : ie.zero.isSome = true) (hsz : ie.size = k) (hk0 : 0 < k)
    (hv : RV w φ κ R (.sl (some e) k s1) v S1) (h2 : RE w φ κ R k s2 us2 S2) (hsv : (sv = .slice none 0 0 ∧ us2 = []) ∨ ∃ A c, sv = .slice (some A) s2.length c ∧ ∀ j u, us2[j]? = some u → w.cell? (A.add j) = some u)
    (hR : ∀ x, R x → x < w.heap.size ∧ S1 x = 0 ∧ S2 x = 0) (hS : ∀ x, S1 x + S2 x ≤ 1) (hSw : ∀ x, S1 x + S2 x ≠ 0 → x < w.heap.size) (hlen : s1.length + s2.length ≤ 1000000000) (hby : ie.bytes ≤ 100000) (ty : TypeId) :
    ∃ v' w' S', (Builtin.append_ #[T, T] ty #[v, sv]).run Try.prog w = .ok v' w' ∧ (∀ φ' κ', RV w' φ' κ' R (.sl (some e) k (s1 ++ s2)) v' S') ∧ (∀ x, x < w.heap.size → S1 x + S2 x = 0 → w'.heap[x]? = w.heap[x]?) ∧
      w.heap.size ≤ w'.heap.size ∧ w'.os = w.os ∧ w'.tape = w.tape ∧ w'.output = w.output ∧ (∀ x, x < w.heap.size → S' x ≤ S1 x + S2 x) ∧ (∀ x, w.heap.size ≤ x → S' x ≤ 1 ∧ (S' x ≠ 0 → x < w'.heap.size)) := by
  obtain ⟨d, j, hd, hj, _, hjs, hjb, hzz⟩ := TI.parts (Go.Proofs.Ytkdbedbefojieaa.ty he)
  obtain ⟨z, hz⟩ := Option.isSome_iff_exists.1 hz
  obtain ⟨zv, hzv, hzc, hzl, _⟩ := hzz z hz
  have hsl := ty_sl hT hk
  have hzs : zv.cells.size = k := by rw [← Array.length_toList, hzc]; simp [hzl, hsz]
  have hl2 := h2.length
  by_cases hne : ∃ A0, v = .slice (some A0) 0 0 ∧ s1 = [] ∧ S1 = Ct.z
  · obtain ⟨A0, rfl, rfl, rfl⟩ := hne
    rcases hsv with ⟨rfl, rfl⟩ | ⟨A2, c2, rfl, hcell⟩
    · have hs2 : s2 = [] := by
        have h9 : s2.length * k = 0 := by simpa using hl2.symm
        rcases Nat.mul_eq_zero.1 h9 with h | h
        · exact List.eq_nil_of_length_eq_zero h
        · omega
      subst hs2
      refine ⟨.slice (some A0) 0 0, w, Ct.z, ?_, fun φ' κ' => .ne, fun _ _ _ => rfl, Nat.le_refl _, rfl, rfl, rfl, fun x _ => Nat.zero_le _, fun x _ => ⟨Nat.zero_le _, fun h => absurd rfl h⟩⟩
      simp [Builtin.append_, run_underlying hsl, sizeOf, typeInfo, hj, Builtin.lenOf, Builtin.firstCells, storeCells]
    · by_cases hm : s2.length = 0
      · have hs2 := List.eq_nil_of_length_eq_zero hm
        subst hs2
        refine ⟨.slice (some A0) 0 0, w, Ct.z, ?_, fun φ' κ' => .ne, fun _ _ _ => rfl, Nat.le_refl _, rfl, rfl, rfl, fun x _ => Nat.zero_le _, fun x _ => ⟨Nat.zero_le _, fun h => absurd rfl h⟩⟩
        simp [Builtin.append_, run_underlying hsl, sizeOf, typeInfo, hj, Builtin.lenOf, Builtin.firstCells, storeCells, loadCells, loadCellsFrom]
      · obtain ⟨v', w', hrun, ho', hg⟩ := run_append_arg_grows (P := Try.prog) w T ty e j zv k ie.bytes hsl hj hzv (by rw [hjs, hsz]) hjb hzs hk0 A0 0 0 [] (by simp) (fun j u hj => by simp at hj) A2 s2.length c2 us2 hl2
          hcell (by omega) (by unfold maxLen; omega) (by
            have : (0 + s2.length) * ie.bytes ≤ 1000000000 * 100000 := Nat.mul_le_mul (by simp at hlen; omega) hby
            omega)
        have hkeepR : ∀ x, R x → w'.heap[x]? = w.heap[x]? := fun x hx => hg.block x (hR x hx).1 (by simp)
        have hkeepS : ∀ x, S2 x ≠ 0 → w'.heap[x]? = w.heap[x]? := fun x hx => hg.block x (hSw x (by omega)) (by simp)
        have hre := RE.keep hkeepR h2 hkeepS
        rcases ho'.2 with ⟨rfl, h0⟩ | ⟨g, cap, cur, rfl, hgl, hh, hle, hm', hsz', htk⟩
        · omega
        · have hgw' : g < w'.heap.size := (Array.getElem?_eq_some_iff.1 hh).1
          refine ⟨_, w', fun x => (if x = g then 1 else 0) + S2 x, hrun, fun φ' κ' => ?_, fun x hx h0 => hg.block x hx (by simp), hg.size, hg.os, hg.tape, hg.output, fun x hx => ?_, fun x hx => ?_⟩
          · have := RV.ow (e := e) (RE.any φ' κ' hre) hh (by simpa using hle) hm' hsz' (by simpa using htk) (T := fun x => (if x = g then 1 else 0) + S2 x) fun _ => rfl
            simpa using this
          · dsimp only; rw [if_neg (by omega)]; omega
          · dsimp only
            have h5 : S2 x = 0 := by
              by_cases h6 : S2 x = 0
              · exact h6
              · have := hSw x (by omega); omega
            rw [h5]
            split
            · rename_i e; subst e; exact ⟨by omega, fun _ => hgw'⟩
            · simp
  -- the row
  have hrow : ∃ us1 S3, w.ownsRow 0 e k v s1.length us1 ∧ RE w φ κ R k s1 us1 S3 ∧ (∀ x, S3 x ≤ S1 x) ∧ (∀ g, v.ownBlock = some g → S1 g ≠ 0 ∧ S3 g = 0 ∧ ∀ x, S1 x = (if x = g then 1 else 0) + S3 x) ∧ (v.ownBlock = none → v = .slice none 0 0) := by
    cases hv with
    | ni => exact ⟨[], Ct.z, ⟨by simp, .inl ⟨rfl, rfl⟩⟩, .nil, fun _ => Nat.le_refl _, fun g hg => by simp [Value.ownBlock] at hg, fun _ => rfl⟩
    | ne => exact absurd ⟨_, rfl, rfl, rfl⟩ hne
    | @ow _ _ _ g cap cur us S _ hre hh hle hm hsz' htk hSx =>
      refine ⟨us, S, ⟨hre.length, .inr ⟨g, cap, cur, rfl, Nat.zero_le _, hh, hle, hm, hsz', htk⟩⟩, hre, fun x => by rw [hSx]; omega, fun g' hg' => ?_, fun h0 => by simp [Value.ownBlock] at h0⟩
      simp only [Value.ownBlock, Option.some.injEq] at hg'
      subst hg'
      have h1 := hS g
      have h2 := hSx g
      simp at h2
      exact ⟨by omega, by omega, hSx⟩
  obtain ⟨us1, S3, hown, hre1, hS3, hblk, hnone⟩ := hrow
  have hw : ∀ x, S3 x + S2 x ≠ 0 → x < w.heap.size := fun x hx => hSw x (by have := hS3 x; omega)
  rcases hsv with ⟨rfl, rfl⟩ | ⟨A2, c, rfl, hcell⟩
  · have hs2 : s2 = [] := by
      have h9 : s2.length * k = 0 := by simpa using hl2.symm
      rcases Nat.mul_eq_zero.1 h9 with h | h
      · exact List.eq_nil_of_length_eq_zero h
      · omega
    subst hs2
    refine ⟨v, w, S1, ?_, fun φ' κ' => by simpa using RV.any φ' κ' hv rfl, fun _ _ _ => rfl, Nat.le_refl _, rfl, rfl, rfl, fun x _ => by omega, fun x hx => ⟨by have := hS x; omega, fun h0 => hSw x (by omega)⟩⟩
    rcases hown.2 with ⟨rfl, h0⟩ | ⟨g, cap, cur, rfl, _, _, hnc, _⟩
    · simp [Builtin.append_, run_underlying hsl, sizeOf, typeInfo, hj, Builtin.lenOf, Builtin.firstCells]
    · simp [Builtin.append_, run_underlying hsl, sizeOf, typeInfo, hj, Builtin.lenOf, Builtin.firstCells, hnc, storeCells]
  · obtain ⟨v', w', hrun, ho', hg, hnil, hob⟩ := run_append_own_at (P := Try.prog) (w := w) 0 T ty e j zv k ie.bytes hsl hj hzv (by rw [hjs, hsz]) hjb hzs hk0 v s1.length us1 hown A2 s2.length c us2 hl2
      hcell h2.one (by unfold maxLen; omega) (by
        have : (s1.length + s2.length) * ie.bytes ≤ 1000000000 * 100000 := Nat.mul_le_mul hlen hby
        omega) (Nat.zero_le _)
    have hkeepR : ∀ x, R x → w'.heap[x]? = w.heap[x]? := fun x hx => hg.block x (hR x hx).1 (fun e => by have := (hblk x e.symm).1; have := (hR x hx).2.1; omega)
    have hkeepS : ∀ x, S3 x + S2 x ≠ 0 → w'.heap[x]? = w.heap[x]? := fun x hx => hg.block x (hw x hx) (fun e => by
      obtain ⟨a1, a2, a3⟩ := hblk x e.symm
      have := hS x
      omega)
    have hre : RE w' φ κ R k (s1 ++ s2) (us1 ++ us2) (fun x => S3 x + S2 x) :=
      RE.append (RE.keep hkeepR hre1 fun x hx => hkeepS x (by omega)) (RE.keep hkeepR h2 fun x hx => hkeepS x (by omega)) fun _ => rfl
    rcases ho'.2 with ⟨rfl, h0⟩ | ⟨g, cap, cur, rfl, _, hh, hle, hm, hsz', htk⟩
    · have h1 : s1 = [] := List.eq_nil_of_length_eq_zero (by omega)
      have h3 : s2 = [] := List.eq_nil_of_length_eq_zero (by omega)
      subst h1 h3
      refine ⟨_, w', Ct.z, hrun, fun φ' κ' => .ni, fun x hx h0 => hg.block x hx (fun e => by have := (hblk x e.symm).1; omega), hg.size, hg.os, hg.tape, hg.output, fun x _ => Nat.zero_le _, fun x _ => ⟨Nat.zero_le _, fun h => absurd rfl h⟩⟩
    · have hgw' : g < w'.heap.size := (Array.getElem?_eq_some_iff.1 hh).1
      have hgS : g < w.heap.size → S1 g = 1 ∧ S3 g = 0 ∧ S2 g = 0 ∧ ∀ x, S1 x = (if x = g then 1 else 0) + S3 x := fun hlt => by
        rcases hob with h4 | h4
        · obtain ⟨a1, a2, a3⟩ := hblk g (by rw [← h4]; rfl)
          have := hS g
          exact ⟨by omega, a2, by omega, a3⟩
        · simp only [Value.ownBlock, Option.some.injEq] at h4; omega
      refine ⟨_, w', fun x => (if x = g then 1 else 0) + (S3 x + S2 x), hrun, fun φ' κ' => ?_, fun x hx h0 => hg.block x hx (fun e => by have := (hblk x e.symm).1; omega), hg.size, hg.os, hg.tape, hg.output, fun x hx => ?_, fun x hx => ?_⟩
      · have := RV.ow (e := e) (RE.any φ' κ' hre) hh (by rw [List.length_append]; exact hle) hm hsz' (by rw [List.length_append]; exact htk) (T := fun x => (if x = g then 1 else 0) + (S3 x + S2 x)) fun _ => rfl
        rw [List.length_append] at this
        exact this
      · dsimp only
        by_cases hxg : x = g
        · subst hxg
          obtain ⟨a1, a2, a3, a4⟩ := hgS hx
          simp; omega
        · rw [if_neg hxg]; have := hS3 x; omega
      · dsimp only
        have h5 : S3 x + S2 x = 0 := by
          by_cases h6 : S3 x + S2 x = 0
          · exact h6
          · have := hw x h6; omega
        rw [h5]
        split
        · rename_i e; subst e; exact ⟨by omega, fun _ => hgw'⟩
        · simp
theorem ap_appendO {T e k b u : Nat} {x y : Operand} {s1 : List (List AV)} {i ie : TI} {b1 : List Sl} {s2 : List (List AV)} (hg : o.guard = none) (ho : o.op = .call { callee := .builtin .append, args := #[x, y], argTypes := #[T, T] }) (hx : aev s x = .hd b u) (hs : s.b[b]? = some ⟨u, .r e k s1⟩)
    (hT : tt[T]? = some i) (hk : i.kd = .sl e) (he : tt[e]? = some ie) (hz : ie.zero.isSome = true) (hsz : ie.size = k) (hk0 : Nat.ble 1 k = true) (hby : Nat.ble ie.bytes 100000 = true) (hlen : s1.length + s2.length ≤ 1000000000)
    (hy : (aev s y = .sl none k s2 ∧ b1 = s.b) ∨ ∃ b2 u2, aev s y = .hd b2 u2 ∧ s.b[b2]? = some ⟨u2, .r e k s2⟩ ∧ Nat.beq b2 b = false ∧ b1 = s.b.set b2 ⟨u2, .x⟩)
    (K : AP Try.prog X ops Q rest (AS.put ⟨s.t, b1.set b ⟨u + 1, .r e k (s1 ++ s2)⟩⟩ o.dst (.hd b (u + 1)))) : AP Try.prog X ops Q (o :: rest) s :=
  .run hg (fun X φ κ f a w h => by
    have hk0 := Nat.le_of_ble_eq_true hk0
    have hby := Nat.le_of_ble_eq_true hby
    have hv := h.hdv hx hs
    have hbl : b < s.b.length := (List.getElem?_eq_some_iff.1 hs).1
    -- the source
    have hsrc : ∃ f1 S2 us2, SatW X φ κ f1 S2 ⟨s.t, b1⟩ a w ∧ b1[b]? = some ⟨u, .r e k s1⟩ ∧ f1 b = f b ∧ RE w φ κ X.R k s2 us2 S2 ∧ ((a.eval y = .slice none 0 0 ∧ us2 = []) ∨ ∃ A c, a.eval y = .slice (some A) s2.length c ∧ ∀ j u, us2[j]? = some u → w.cell? (A.add j) = some u) := by
      rcases hy with ⟨hy, rfl⟩ | ⟨b2, u2, hy, hs2, hne, rfl⟩
      · have h1 := h.evs hy
        refine ⟨f, Ct.z, ?_⟩
        generalize a.eval y = p at h1
        cases h1 with
        | ni => exact ⟨[], h, hs, rfl, .nil, .inl ⟨rfl, rfl⟩⟩
        | ne => exact ⟨[], h, hs, rfl, .nil, .inr ⟨_, _, rfl, fun j u hj => by simp at hj⟩⟩
        | ro hre _ _ _ hc => exact ⟨_, h, hs, rfl, hre, .inr ⟨_, _, rfl, fun j u hj => by rw [addr_mid]; exact hc j u hj⟩⟩
      · have hne := Nat.ne_of_beq_eq_false hne
        have h1 := h.hdv hy hs2
        obtain ⟨_, ht⟩ := h.take hs2 .x fun _ _ => .x
        have hb1 : (s.b.set b2 ⟨u2, .x⟩)[b]? = some ⟨u, .r e k s1⟩ := by rw [List.getElem?_set_ne hne]; exact hs
        have hf1 : updF f b2 Ct.z b = f b := by simp [updF, Ne.symm hne]
        generalize hp : a.eval y = p at h1
        generalize hF : f b2 = F at h1 ht
        cases h1 with
        | ni => exact ⟨_, Ct.z, [], ht.drop fun x => by simp [Ct.z], hb1, hf1, .nil, .inl ⟨rfl, rfl⟩⟩
        | ne => exact ⟨_, Ct.z, [], ht.drop fun x => by simp [Ct.z], hb1, hf1, .nil, .inr ⟨_, _, rfl, fun j u hj => by simp at hj⟩⟩
        | @ow _ _ _ g cap cur us S _ hre hh hle hm hsz' htk hSx =>
          refine ⟨_, S, us, ht.drop fun x => by (try dsimp only); rw [hSx]; simp only [Ct.z]; omega, hb1, hf1, hre, .inr ⟨⟨g, 0, none⟩, cap, rfl, fun j u hj => ?_⟩⟩
          rw [addr_mid, cell_of_row w g (0 + j) cur e (0, 0) hh]
          rw [← htk, List.getElem?_take] at hj
          split at hj
          · simpa using hj
          · cases hj
    obtain ⟨f1, S2, us2, h1, hb1, hf1, hre2, hsv⟩ := hsrc
    have hsum := fun x => sumF_le f1 x b1.length b (List.getElem?_eq_some_iff.1 hb1).1
    obtain ⟨v', w', S', hrun, hrv, hblk, hsz', hos, htp, hou, hS1, hS2⟩ := run_append_rv (R := X.R) hT hk he hz hsz hk0 hv hre2 hsv (fun x hx => by
        have a1 := h1.not_rd hx
        have a2 := hsum x
        rw [hf1] at a2
        exact ⟨h.blk (.inl hx), by dsimp only at a1; omega, by dsimp only at a1; omega⟩) (fun x => by
        have a1 := h1.one x
        have a2 := hsum x
        rw [hf1] at a2
        dsimp only at a1; omega) (fun x hx => by
        have a1 := h1.own x
        have a2 := hsum x
        rw [hf1] at a2
        dsimp only at a1
        exact (a1 (by omega)).1) hlen hby o.type
    have hrun' : (execOp a.eval o).run Try.prog w = .ok (.value v') w' := by
      simp only [execOp, ho, resolve, invoke, builtin, Sem.run_bind, Sem.run_pure, Result.andThen_ok, List.map_toArray, List.map_cons, List.map_nil, hrun]
    have hnone := h1.new b (u + 1) (fun e he => by rw [hb1] at he; injection he with he; subst he; simp)
    have hκ : ∀ b' v g, κ b' v = some g → (κ.on b (u + 1) (some v')) b' v = some g := fun b' v g hg => by
      unfold Ka.on
      by_cases hc : b' = b ∧ v = u + 1
      · rw [hc.1, hc.2, hnone.2] at hg; cases hg
      · rw [if_neg hc]; exact hg
    have e2 : (κ.on b (u + 1) (some v')) b (u + 1) = some v' := by simp [Ka.on]
    have ht := h1.turn (w' := w') (φ' := φ) (κ' := κ.on b (u + 1) (some v')) (u := u + 1) (B := .r e k (s1 ++ s2)) (g := S') (L' := Ct.z) hb1 (fun _ _ _ h => h) hκ hsz' hos htp hou (fun x hx h0 => by rw [hf1] at h0; exact hblk x hx h0) (.r e2 (hrv _ _))
      (fun x hx => by rw [hf1]; have := hS1 x hx; simp only [Ct.z]; omega) (fun x hx => by have := hS2 x hx; simp only [Ct.z]; exact ⟨by omega, fun h0 => this.2 (by omega)⟩) (by simp) (fun _ _ _ h => h) (fun i v hv hn => by
        unfold Ka.on
        rw [if_neg (by omega)]; exact hn)
    have hv1 : v'.oneCell' = true := by obtain ⟨A, c, rfl, _⟩ := (hrv φ κ).sl_form; rfl
    exact ⟨v', w', φ, _, _, hrun', ht.puts o.dst (.hd e2 hv1)⟩) K

/-- append onto what is full: a row of its own -/
theorem run_append_fs {T e k : Nat} {i ie : TI} {s1 s2 : List (List AV)} {v sv : Value} {S2 : Ct} {us2 : List Value} (hT : tt[T]? = some i) (hk : i.kd = .sl e) (he : tt[e]? = some ie) (hz : ie.zero.isSome = true) (hsz : ie.size = k) (hk0 : 0 < k)
    (hv : RV w φ κ R (.fs k s1) v Ct.z) (h2 : RE w φ κ R k s2 us2 S2) (hsv : (sv = .slice none 0 0 ∧ us2 = []) ∨ ∃ A c, sv = .slice (some A) s2.length c ∧ ∀ j u, us2[j]? = some u → w.cell? (A.add j) = some u)
    (hR : ∀ x, R x → x < w.heap.size ∧ S2 x = 0) (hS : ∀ x, S2 x ≤ 1) (hSw : ∀ x, S2 x ≠ 0 → x < w.heap.size) (hlen : s1.length + s2.length ≤ 1000000000) (hby : ie.bytes ≤ 100000) (hm : s1 = [] ∨ 0 < s2.length) (ty : TypeId) :
    ∃ v' w' S', (Builtin.append_ #[T, T] ty #[v, sv]).run Try.prog w = .ok v' w' ∧ (∀ φ' κ', RV w' φ' κ' R (.sl (some e) k (s1 ++ s2)) v' S') ∧ (∀ x, x < w.heap.size → S2 x = 0 → w'.heap[x]? = w.heap[x]?) ∧
      w.heap.size ≤ w'.heap.size ∧ w'.os = w.os ∧ w'.tape = w.tape ∧ w'.output = w.output ∧ (∀ x, x < w.heap.size → S' x ≤ S2 x) ∧ (∀ x, w.heap.size ≤ x → S' x ≤ 1 ∧ (S' x ≠ 0 → x < w'.heap.size)) := by
  generalize hzz0 : Ct.z = Z0 at hv
  cases hv with
  | fs hv0 hA =>
    obtain ⟨A, rfl⟩ := hA
    by_cases hs1 : s1 = []
    · subst hs1
      have hv' : RV w φ κ R (.sl (some e) k []) (.slice A 0 0) Ct.z := by
        generalize hnn : ([] : List (List AV)).length = nn at hv0
        simp at hnn; subst hnn
        cases hv0 with
        | ni => exact .ni
        | ne => exact .ne
        | ro _ _ _ _ _ => exact .ne
      obtain ⟨v', w', S', e1, e2, e3, e4, e5, e6, e7, e8, e9⟩ := run_append_rv hT hk he hz hsz hk0 hv' h2 hsv (fun x hx => ⟨(hR x hx).1, rfl, (hR x hx).2⟩) (fun x => by simpa [Ct.z] using hS x) (fun x hx => hSw x (by simpa [Ct.z] using hx)) hlen hby ty
      exact ⟨v', w', S', e1, e2, fun x hx h0 => e3 x hx (by simpa [Ct.z] using h0), e4, e5, e6, e7, fun x hx => by simpa [Ct.z] using e8 x hx, e9⟩
    · have hm' : 0 < s2.length := hm.resolve_left hs1
      obtain ⟨d, j, hd, hj, _, hjs, hjb, hzz⟩ := TI.parts (Go.Proofs.Ytkdbedbefojieaa.ty he)
      obtain ⟨z, hz⟩ := Option.isSome_iff_exists.1 hz
      obtain ⟨zv, hzv, hzc, hzl, _⟩ := hzz z hz
      have hsl := ty_sl hT hk
      have hzs : zv.cells.size = k := by rw [← Array.length_toList, hzc]; simp [hzl, hsz]
      have hl2 := h2.length
      generalize hnn : s1.length = nn at hv0
      cases hv0 with
      | ni => exact absurd rfl hs1
      | ne => exact absurd rfl hs1
      | @ro _ _ b o _ us1 hre hle hmx hRb hcell1 =>
        clear hnn
        rcases hsv with ⟨rfl, rfl⟩ | ⟨A2, c2, rfl, hcell⟩
        · have h9 : s2.length * k = 0 := by simpa using hl2.symm
          have : 0 < s2.length * k := Nat.mul_pos hm' hk0
          omega
        · obtain ⟨v', w', hrun, ho', hg⟩ := run_append_arg_grows (P := Try.prog) w T ty e j zv k ie.bytes hsl hj hzv (by rw [hjs, hsz]) hjb hzs hk0 ⟨b, o, none⟩ s1.length s1.length us1 hre.length (fun j u hj => by rw [addr_mid]; exact hcell1 j u hj) A2 s2.length c2 us2 hl2
            hcell (by omega) (by unfold maxLen; omega) (by
              have : (s1.length + s2.length) * ie.bytes ≤ 1000000000 * 100000 := Nat.mul_le_mul hlen hby
              omega)
          have hkeepR : ∀ x, R x → w'.heap[x]? = w.heap[x]? := fun x hx => hg.block x (hR x hx).1 (by simp)
          have hkeepS : ∀ x, S2 x ≠ 0 → w'.heap[x]? = w.heap[x]? := fun x hx => hg.block x (hSw x hx) (by simp)
          have hre2 := RE.append (RE.keep hkeepR hre fun x hx => absurd rfl hx) (RE.keep hkeepR h2 hkeepS) (U := S2) fun x => by simp [Ct.z]
          rcases ho'.2 with ⟨rfl, h0⟩ | ⟨g, cap, cur, rfl, hgl, hh, hle', hmx', hsz', htk⟩
          · omega
          · have hgw' : g < w'.heap.size := (Array.getElem?_eq_some_iff.1 hh).1
            refine ⟨_, w', fun x => (if x = g then 1 else 0) + S2 x, hrun, fun φ' κ' => ?_, fun x hx h0 => hg.block x hx (by simp), hg.size, hg.os, hg.tape, hg.output, fun x hx => ?_, fun x hx => ?_⟩
            · have := RV.ow (e := e) (RE.any φ' κ' hre2) hh (by rw [List.length_append]; exact hle') hmx' hsz' (by rw [List.length_append]; exact htk) (T := fun x => (if x = g then 1 else 0) + S2 x) fun _ => rfl
              rw [List.length_append] at this; exact this
            · dsimp only; rw [if_neg (by omega)]; omega
            · dsimp only
              have h5 : S2 x = 0 := by
                by_cases h6 : S2 x = 0
                · exact h6
                · have := hSw x h6; omega
              rw [h5]
              split
              · rename_i e; subst e; exact ⟨by omega, fun _ => hgw'⟩
              · simp
theorem ap_appendF0 {T e k : Nat} {x y : Operand} {s1 : List (List AV)} {i ie : TI} {b1 : List Sl} {s2 : List (List AV)} (hg : o.guard = none) (ho : o.op = .call { callee := .builtin .append, args := #[x, y], argTypes := #[T, T] }) (hxv : ∀ X φ κ f a w, SatW X φ κ f Ct.z s a w → RV w φ κ X.R (.fs k s1) (a.eval x) Ct.z)
    (hT : tt[T]? = some i) (hk : i.kd = .sl e) (he : tt[e]? = some ie) (hz : ie.zero.isSome = true) (hsz : ie.size = k) (hk0 : Nat.ble 1 k = true) (hby : Nat.ble ie.bytes 100000 = true)
    (hy : (aev s y = .sl none k s2 ∧ b1 = s.b) ∨ ∃ b2 u2, aev s y = .hd b2 u2 ∧ s.b[b2]? = some ⟨u2, .r e k s2⟩ ∧ b1 = s.b.set b2 ⟨u2, .x⟩) (hlen : s1.length + s2.length ≤ 1000000000) (hm : s1 = [] ∨ 0 < s2.length)
    (K : AP Try.prog X ops Q rest (AS.put ⟨s.t, (newS b1 (.r e k (s1 ++ s2))).2⟩ o.dst (.hd (newS b1 (.r e k (s1 ++ s2))).1.1 (newS b1 (.r e k (s1 ++ s2))).1.2))) : AP Try.prog X ops Q (o :: rest) s :=
  .run hg (fun X φ κ f a w h => by
    have hk0 := Nat.le_of_ble_eq_true hk0
    have hby := Nat.le_of_ble_eq_true hby
    have hv := hxv X φ κ f a w h
    have hsrc : ∃ f1 S2 us2, SatW X φ κ f1 S2 ⟨s.t, b1⟩ a w ∧ RE w φ κ X.R k s2 us2 S2 ∧ ((a.eval y = .slice none 0 0 ∧ us2 = []) ∨ ∃ A c, a.eval y = .slice (some A) s2.length c ∧ ∀ j u, us2[j]? = some u → w.cell? (A.add j) = some u) := by
      rcases hy with ⟨hy, rfl⟩ | ⟨b2, u2, hy, hs2, rfl⟩
      · have h1 := h.evs hy
        refine ⟨f, Ct.z, ?_⟩
        generalize a.eval y = p at h1
        cases h1 with
        | ni => exact ⟨[], h, .nil, .inl ⟨rfl, rfl⟩⟩
        | ne => exact ⟨[], h, .nil, .inr ⟨_, _, rfl, fun j u hj => by simp at hj⟩⟩
        | ro hre _ _ _ hc => exact ⟨_, h, hre, .inr ⟨_, _, rfl, fun j u hj => by rw [addr_mid]; exact hc j u hj⟩⟩
      · have h1 := h.hdv hy hs2
        obtain ⟨_, ht⟩ := h.take hs2 .x fun _ _ => .x
        generalize hp : a.eval y = p at h1
        generalize hF : f b2 = F at h1 ht
        cases h1 with
        | ni => exact ⟨_, Ct.z, [], ht.drop fun x => by simp [Ct.z], .nil, .inl ⟨rfl, rfl⟩⟩
        | ne => exact ⟨_, Ct.z, [], ht.drop fun x => by simp [Ct.z], .nil, .inr ⟨_, _, rfl, fun j u hj => by simp at hj⟩⟩
        | @ow _ _ _ g cap cur us S _ hre hh hle hm hsz' htk hSx =>
          refine ⟨_, S, us, ht.drop fun x => by (try dsimp only); rw [hSx]; simp only [Ct.z]; omega, hre, .inr ⟨⟨g, 0, none⟩, cap, rfl, fun j u hj => ?_⟩⟩
          rw [addr_mid, cell_of_row w g (0 + j) cur e (0, 0) hh]
          rw [← htk, List.getElem?_take] at hj
          split at hj
          · simpa using hj
          · cases hj
    obtain ⟨f1, S2, us2, h1, hre2, hsv⟩ := hsrc
    obtain ⟨v', w', S', hrun, hrv, hblk, hsz', hos, htp, hou, hS1, hS2⟩ := run_append_fs (R := X.R) hT hk he hz hsz hk0 hv hre2 hsv (fun x hx => by
        have a1 := h1.not_rd hx
        exact ⟨h.blk (.inl hx), by omega⟩) (fun x => by have a1 := h1.one x; omega) (fun x hx => by
        have a1 := h1.own x
        exact (a1 (by omega)).1) hlen hby hm o.type
    have hrun' : (execOp a.eval o).run Try.prog w = .ok (.value v') w' := by
      simp only [execOp, ho, resolve, invoke, builtin, Sem.run_bind, Sem.run_pure, Result.andThen_ok, List.map_toArray, List.map_cons, List.map_nil, hrun]
    have hv1 : v'.oneCell' = true := by obtain ⟨A, c, rfl, _⟩ := (hrv φ κ).sl_form; rfl
    obtain ⟨φ', κ', f', e1, e2, e3, e4, e5⟩ := h1.newS_ (w' := w') (B := .r e k (s1 ++ s2)) (g := S') (L' := Ct.z) none (some v') hsz' hos htp hou hblk (fun φ' κ' j u a b c d => .r d (hrv _ _))
      (fun x hx => by have := hS1 x hx; simp only [Ct.z]; omega) (fun x hx => by have := hS2 x hx; simp only [Ct.z]; exact ⟨by omega, fun h0 => this.2 (by omega)⟩)
    exact ⟨v', w', φ', κ', f', hrun', e5.puts o.dst (.hd e4 hv1)⟩) K
theorem ap_appendF {T e k : Nat} {x y : Operand} {s1 : List (List AV)} {i ie : TI} {b1 : List Sl} {s2 : List (List AV)} (hg : o.guard = none) (ho : o.op = .call { callee := .builtin .append, args := #[x, y], argTypes := #[T, T] }) (hx : aev s x = .fs k s1)
    (hT : tt[T]? = some i) (hk : i.kd = .sl e) (he : tt[e]? = some ie) (hz : ie.zero.isSome = true) (hsz : ie.size = k) (hk0 : Nat.ble 1 k = true) (hby : Nat.ble ie.bytes 100000 = true)
    (hy : (aev s y = .sl none k s2 ∧ b1 = s.b) ∨ ∃ b2 u2, aev s y = .hd b2 u2 ∧ s.b[b2]? = some ⟨u2, .r e k s2⟩ ∧ b1 = s.b.set b2 ⟨u2, .x⟩) (hlen : s1.length + s2.length ≤ 1000000000) (hm : s1 = [] ∨ 0 < s2.length)
    (K : AP Try.prog X ops Q rest (AS.put ⟨s.t, (newS b1 (.r e k (s1 ++ s2))).2⟩ o.dst (.hd (newS b1 (.r e k (s1 ++ s2))).1.1 (newS b1 (.r e k (s1 ++ s2))).1.2))) : AP Try.prog X ops Q (o :: rest) s :=
  ap_appendF0 hg ho (fun X φ κ f a w h => h.evs hx) hT hk he hz hsz hk0 hby hy hlen hm K
theorem ap_appendN {T e k : Nat} {x y : Operand} {i ie : TI} {b1 : List Sl} {s2 : List (List AV)} (hg : o.guard = none) (ho : o.op = .call { callee := .builtin .append, args := #[x, y], argTypes := #[T, T] }) (hx : aev s x = .sc (.slice none 0 0))
    (hT : tt[T]? = some i) (hk : i.kd = .sl e) (he : tt[e]? = some ie) (hz : ie.zero.isSome = true) (hsz : ie.size = k) (hk0 : Nat.ble 1 k = true) (hby : Nat.ble ie.bytes 100000 = true)
    (hy : (aev s y = .sl none k s2 ∧ b1 = s.b) ∨ ∃ b2 u2, aev s y = .hd b2 u2 ∧ s.b[b2]? = some ⟨u2, .r e k s2⟩ ∧ b1 = s.b.set b2 ⟨u2, .x⟩) (hlen : s2.length ≤ 1000000000)
    (K : AP Try.prog X ops Q rest (AS.put ⟨s.t, (newS b1 (.r e k s2)).2⟩ o.dst (.hd (newS b1 (.r e k s2)).1.1 (newS b1 (.r e k s2)).1.2))) : AP Try.prog X ops Q (o :: rest) s :=
  ap_appendF0 (s1 := []) hg ho (fun X φ κ f a w h => by rw [h.evc hx]; exact .fs .ni ⟨none, rfl⟩) hT hk he hz hsz hk0 hby hy (by simpa using hlen) (.inl rfl) K
end
end Go.Proofs.Ytkdbedbefojieaa
