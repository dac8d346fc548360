/-
  MORE OPERATIONS by abstract values: nil, structs built, a cell of an element stored. Nothing here names a function of the program.
-/
import Derived.Test.YtkdbedbefojieaaDraw
namespace Go.Proofs.Ytkdbedbefojieaa
set_option linter.unusedVariables false
set_option linter.unusedSimpArgs false
open Go.RowKit
set_option maxRecDepth 100000

section
variable {X : Cx} {φ φ' : Fi} {κ κ' : Ka} {f : Nat → Ct} {L L' : Ct} {s s' : AS} {a : Act} {w w' : World} {R : Nat → Prop} {ops : Array Oper} {rest : List Oper} {o : Oper} {av : AV} {Q : Exit → AS → Prop}
theorem run_nilc {x : Operand} {ad : Addr} {a : Act} (ho : o.op = .nilCheck x) (hv : a.eval x = .pointer (some ad)) : (execOp a.eval o).run Try.prog w = .ok (.value (.pointer (some ad))) w := by
  simp only [execOp, ho, hv]; rfl
theorem pq_nilc {x : Operand} {b u off : Nat} (ho : o.op = .nilCheck x) (hx : aev s x = .bp b u off) : Pq Try.prog X s o (.bp b u off) := .of_run fun X φ κ f a w h => by
  have h1 := h.evs hx
  generalize hp : a.eval x = p at h1
  cases h1 with | bp hg => exact ⟨_, .bp hg, fun w' _ => run_nilc ho hp⟩
theorem pq_nilc_rp {x : Operand} {k i off : Nat} {s' : List (List AV)} (ho : o.op = .nilCheck x) (hx : aev s x = .rp k s' i off) : Pq Try.prog X s o (.rp k s' i off) := .of_run fun X φ κ f a w h => by
  have h1 := h.evs hx
  generalize hp : a.eval x = p at h1
  cases h1 with | rp h1 h2 h3 => exact ⟨_, .rp h1 h2 h3, fun w' _ => run_nilc ho hp⟩
theorem pq_nilc_ep {x : Operand} {b u k i off : Nat} (ho : o.op = .nilCheck x) (hx : aev s x = .ep b u k i off) : Pq Try.prog X s o (.ep b u k i off) := .of_run fun X φ κ f a w h => by
  have h1 := h.evs hx
  generalize hp : a.eval x = p at h1
  cases h1 with | ep h1 => exact ⟨_, .ep h1, fun w' _ => run_nilc ho hp⟩
def nilB (op : BinOp) (e : Bool) : Option Bool :=
  match op with
  | .eql => some e
  | .neq => some (!e)
  | _ => none
theorem run_eq_ptr {P : Program} {T e : TypeId} (hT : P.underlying T = some (.pointer e)) (p : Option Addr) (w : World) : (Op.equal T (.pointer p) (.pointer none)).run P w = .ok p.isNone w := by
  have key : ∀ d, (Op.equalIn (d + 1) T (.pointer p) (.pointer none)).run P w = .ok p.isNone w := fun d => by
    cases p <;> simp [Op.equalIn, run_underlying hT]
  exact key 9999
theorem run_bin_ptr {op : BinOp} {T T' e : TypeId} {x y : Operand} {a : Act} {p : Option Addr} {r : Bool} (hT : Try.prog.underlying T = some (.pointer e)) (ho : o.op = .binOp op T x y T') (hx : a.eval x = .pointer p) (hy : a.eval y = .pointer none) (hr : nilB op p.isNone = some r) (w : World) :
    (execOp a.eval o).run Try.prog w = .ok (.value (.bool r)) w := by
  unfold nilB at hr
  cases op <;> simp only [Option.some.injEq, reduceCtorEq] at hr <;> subst hr <;> simp only [execOp, ho, hx, hy] <;>
    simp [eqGuard, binOp, run_eq_ptr hT, go_sem]
theorem pq_nileq {op : BinOp} {T T' e : TypeId} {x y : Operand} {b u off : Nat} {i : TI} {r : Bool} (ho : o.op = .binOp op T x y T') (hx : aev s x = .bp b u off) (hy : aev s y = .sc (.pointer none)) (hr : nilB op false = some r) (hT : tt[T]? = some i ∧ i.kd = .pt e) : Pq Try.prog X s o (.sc (.bool r)) := .of_run fun X φ κ f a w h => by
  have h1 := h.evs hx
  have h2 := h.evc hy
  generalize hp : a.eval x = p at h1
  cases h1 with | bp hg => exact ⟨_, .sc rfl, fun w' _ => run_bin_ptr (ty_pt hT.1 hT.2) ho hp h2 hr w'⟩
theorem pq_nilnil {op : BinOp} {T T' e : TypeId} {x y : Operand} {i : TI} {r : Bool} (ho : o.op = .binOp op T x y T') (hx : aev s x = .sc (.pointer none)) (hy : aev s y = .sc (.pointer none)) (hr : nilB op true = some r) (hT : tt[T]? = some i ∧ i.kd = .pt e) : Pq Try.prog X s o (.sc (.bool r)) := .of_run fun X φ κ f a w h => by
  have h1 := h.evc hx
  have h2 := h.evc hy
  exact ⟨_, .sc rfl, fun w' _ => run_bin_ptr (ty_pt hT.1 hT.2) ho h1 h2 hr w'⟩

/-! a struct's value, built -/
def bldS (s : AS) (fl : List (Nat × Nat)) : List (Nat × Operand) → List AV → List AV
  | [], l => l
  | (i, x) :: r, l => bldS s fl r (spl l ((fl.getD i (0, 0)).1) (aev s x).cells)
theorem fill_gen {place : Nat → Option (Nat × Nat)} : ∀ (parts : List (Nat × Value)) (cs : Array Value), (∀ p ∈ parts, ∃ off sz, place p.1 = some (off, sz) ∧ p.2.cells.size = sz ∧ off + sz ≤ cs.size) →
    Instr.fill place cs parts = some (parts.foldl (fun (l : List Value) p => spl l ((place p.1).getD (0, 0)).1 p.2.cells.toList) cs.toList).toArray
  | [], cs, _ => by simp [Instr.fill]
  | (i, v) :: r, cs, h => by
    obtain ⟨off, sz, h1, h2, h3⟩ := h (i, v) (by simp)
    simp only at h1 h2
    have e : v.cells.zipIdx.foldl (fun cs (p : Value × Nat) => cs.setIfInBounds (off + p.2) p.1) cs = (spl cs.toList off v.cells.toList).toArray := by
      have := foldl_spl v.cells.toList 0 off cs
      rw [← Array.foldl_toList, Array.toList_zipIdx]
      simpa using this
    rw [Instr.fill]
    simp only [h1, h2, ne_eq, not_true_eq_false, decide_false, Bool.false_or]
    rw [if_neg (by simp; omega)]
    rw [show (v.cells.zipIdx.foldl (fun cs x => match x with | (c, j) => cs.setIfInBounds (off + j) c) cs) = v.cells.zipIdx.foldl (fun cs (p : Value × Nat) => cs.setIfInBounds (off + p.2) p.1) cs from rfl, e]
    rw [fill_gen r _ (fun p hp => by
      obtain ⟨o', z', h4, h5, h6⟩ := h p (List.mem_cons_of_mem _ hp)
      exact ⟨o', z', h4, h5, by simp [spl_length]; omega⟩)]
    simp [h1]
theorem bldS_rc {fl : List (Nat × Nat)} {place : Nat → Option (Nat × Nat)} : ∀ (ps : List (Nat × Operand)) {l : List AV} {vs : List Value}, SatW X φ κ f L s a w → RC w φ κ X.R l vs Ct.z → (∀ p ∈ ps, (aev s p.2).known = true ∧ place p.1 = fl[p.1]?) →
    RC w φ κ X.R (bldS s fl ps l) ((ps.map fun p => (p.1, a.eval p.2)).foldl (fun (l : List Value) p => spl l ((place p.1).getD (0, 0)).1 p.2.cells.toList) vs) Ct.z
  | [], l, vs, _, hr, _ => hr
  | (i, x) :: r, l, vs, h, hr, hk => by
    obtain ⟨hk1, hk2⟩ := hk (i, x) (by simp)
    obtain ⟨h1, _⟩ := (h.ev x).cells_ hk1
    have e : (fl.getD i (0, 0)).1 = ((place i).getD (0, 0)).1 := by
      simp only at hk2
      rw [hk2, List.getD_eq_getElem?_getD]
    simp only [bldS, List.map_cons, List.foldl_cons]
    rw [e]
    exact bldS_rc r h (hr.spl_ h1) fun p hp => hk p (List.mem_cons_of_mem _ hp)
theorem bldS_one {place : Nat → Option (Nat × Nat)} : ∀ (ps : List (Nat × Operand)) {vs : List Value}, SatW X φ κ f L s a w → (∀ v ∈ vs, v.oneCell' = true) → (∀ p ∈ ps, (aev s p.2).known = true) →
    ∀ v ∈ ((ps.map fun p => (p.1, a.eval p.2)).foldl (fun (l : List Value) p => spl l ((place p.1).getD (0, 0)).1 p.2.cells.toList) vs), v.oneCell' = true
  | [], vs, _, hr, _ => hr
  | (i, x) :: r, vs, h, hr, hk => by
    obtain ⟨_, h1⟩ := (h.ev x).cells_ (hk (i, x) (by simp))
    exact bldS_one r h (spl_one hr h1) fun p hp => hk p (List.mem_cons_of_mem _ hp)
theorem ty_places {T : Nat} {i : TI} {fl : List (Nat × Nat)} (hT : tt[T]? = some i) (hk : i.kd = .st fl) (hfl : fl.all (fun p => Nat.ble 1 p.2) = true) : ∃ fs, Try.prog.underlying T = some (.struct fs) ∧ ∀ w, (fs.mapM fun f => do pure (f.offset, ← sizeOf f.type) : Sem (Array (Nat × Nat))).run Try.prog w = .ok fl.toArray w := by
  obtain ⟨d, j, hd, hj, h1, _⟩ := TI.parts (ty hT)
  rw [hk] at h1
  cases d with
  | struct fs =>
    refine ⟨fs, hd, fun w => ?_⟩
    simp only [Kd.is] at h1
    have h1 := eq_of_beq h1
    have key : ∀ (l : List Field) (r : List (Nat × Nat)), l.map (fun x => (x.offset, ((Try.prog.info? x.type).map (·.size)).getD 0)) = r → r.all (fun p => Nat.ble 1 p.2) = true → (l.mapM (fun f => do pure (f.offset, ← sizeOf f.type) : Field → Sem (Nat × Nat))).run Try.prog w = .ok r w := by
      intro l
      induction l with
      | nil => rintro r rfl _; rfl
      | cons x l ih =>
        rintro r rfl hr
        simp only [List.map_cons, List.all_cons, Bool.and_eq_true] at hr
        have h3 := ih _ rfl hr.2
        have h4 : (sizeOf x.type).run Try.prog w = .ok (((Try.prog.info? x.type).map (·.size)).getD 0) w := by
          cases hq : Try.prog.info? x.type with
          | none => rw [hq] at hr; simp at hr
          | some j => simp [sizeOf, typeInfo, hq, go_sem]
        rw [List.mapM_cons]
        simp only [Sem.run_bind, h4, Result.andThen_ok, Sem.run_pure, h3]; rfl
    have := key fs.toList fl h1 hfl
    rw [Array.mapM_eq_mapM_toList]
    show Sem.run Try.prog ((List.mapM _ fs.toList) >>= (Sem.pure ∘ List.toArray)) w = _
    rw [Sem.run_bind, this]; rfl
  | _ => simp [Kd.is] at h1
theorem pq_build {T : TypeId} {parts : Array (Nat × Operand)} {i : TI} {fl : List (Nat × Nat)} {z : List ZC} (ho : o.op = .build T parts) (hT : tt[T]? = some i) (hk : i.kd = .st fl) (hz : i.zero = some z) (hfl : fl.all (fun p => Nat.ble 1 p.2) = true)
    (hkn : parts.toList.all (fun p => (aev s p.2).known && (match fl[p.1]? with | some q => (aev s p.2).cells.length == q.2 && Nat.ble (q.1 + q.2) z.length | none => false)) = true) : Pq Try.prog X s o (.ag (bldS s fl parts.toList (z.map fun c => .sc c.val))) := .of_run fun X φ κ f a w h => by
  obtain ⟨d, j, hd, hj, _, _, _, hzz⟩ := TI.parts (ty hT)
  obtain ⟨zv, hzv, hzc, hzl, hagg, _⟩ := hzz z hz
  obtain ⟨fs, hu, hpl⟩ := ty_places hT hk hfl
  have hall : ∀ p ∈ parts.toList, (aev s p.2).known = true ∧ ∃ q, fl[p.1]? = some q ∧ (aev s p.2).cells.length = q.2 ∧ q.1 + q.2 ≤ z.length := fun p hp => by
    have := List.all_eq_true.1 hkn p hp
    simp only [Bool.and_eq_true] at this
    refine ⟨this.1, ?_⟩
    have h2 := this.2
    split at h2
    · rename_i q hq
      simp only [Bool.and_eq_true, beq_iff_eq] at h2
      exact ⟨q, hq, h2.1, Nat.le_of_ble_eq_true h2.2⟩
    · cases h2
  have hz0 : RC w φ κ X.R (z.map fun c => AV.sc c.val) (z.map ZC.val) Ct.z := RC.of_at (by simp) fun i av hi => by
    simp only [List.getElem?_map, Option.map_eq_some_iff] at hi ⊢
    obtain ⟨c, hc, rfl⟩ := hi
    exact ⟨_, ⟨c, hc, rfl⟩, .sc (ZC.one c)⟩
  have hz1 : ∀ v ∈ z.map ZC.val, v.oneCell' = true := fun v hv => by
    obtain ⟨c, _, rfl⟩ := List.mem_map.1 hv; exact ZC.one c
  have hrc := bldS_rc (fl := fl) (place := fun i => fl.toArray[i]?) parts.toList h hz0 fun p hp => ⟨(hall p hp).1, by simp⟩
  have hon := bldS_one (place := fun i => fl.toArray[i]?) parts.toList h hz1 fun p hp => (hall p hp).1
  refine ⟨_, .ag hrc hon, fun w' _ => ?_⟩
  have hzr : (zeroValue T).run Try.prog w' = .ok zv w' := by simp [zeroValue, typeInfo, hj, hzv, go_sem]
  have hfill : Instr.fill (fun i => fl.toArray[i]?) zv.cells ((parts.map fun (i, x) => (i, a.eval x)).toList) = some ((parts.toList.map fun p => (p.1, a.eval p.2)).foldl (fun (l : List Value) (p : Nat × Value) => spl l ((fl.toArray[p.1]?).getD (0, 0)).1 p.2.cells.toList) (z.map ZC.val)).toArray := by
    rw [fill_gen]
    · rw [hzc]; simp
    · intro p hp
      simp only [Array.toList_map, List.mem_map] at hp
      obtain ⟨q, hq, rfl⟩ := hp
      obtain ⟨a1, ⟨off, sz⟩, a2, a3, a4⟩ := hall q hq
      obtain ⟨hc1, _⟩ := (h.ev q.2).cells_ a1
      have := hc1.length
      simp at this
      refine ⟨off, sz, by simpa using a2, by show (a.eval q.2).cells.size = sz; simp only at a3; omega, ?_⟩
      have : zv.cells.size = z.length := by rw [← Array.length_toList, hzc]; simp
      simp only at a4; omega
  simp only [execOp, ho, Instr.build, Sem.run_bind, hzr, Result.andThen_ok, run_underlying hu, hpl, hfill]; rfl
end
end Go.Proofs.Ytkdbedbefojieaa
