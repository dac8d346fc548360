/-
  OPERATIONS THAT TURN NOTHING, BY TYPES: loads, addresses, lengths. Nothing here names a function of the program.
-/
import Derived.Test.YtkdbedbefojieaaOp1
import Derived.Deep.MidRow
import Derived.Deep.Slices
namespace Go.Proofs.Ytkdbedbefojieaa
set_option linter.unusedVariables false
set_option linter.unusedSimpArgs false
open Go.RowKit
set_option maxRecDepth 100000

theorem ty_row {T : Nat} {i : TI} (h : tt[T]? = some i) (hk : (match i.kd with | .st _ => true | .ar _ _ => true | _ => false) = true) :
    ∃ d, Try.prog.underlying T = some d ∧ d.isRow = true ∧ (Try.prog.info? T).map (·.size) = some i.size := by
  obtain ⟨d, j, hd, hj, h1, h2, _⟩ := TI.parts (ty h)
  refine ⟨d, hd, ?_, by rw [hj]; simp [h2]⟩
  cases hk' : i.kd <;> rw [hk'] at h1 hk <;> first | (cases hk; done) | (cases d <;> first | rfl | (simp [Kd.is] at h1; done))
theorem ty_flat {T : Nat} {i : TI} (h : tt[T]? = some i) (hk : (match i.kd with | .st _ => true | .ar _ _ => true | _ => false) = false) :
    ∃ d, Try.prog.underlying T = some d ∧ d.isRow = false ∧ (Try.prog.info? T).map (·.size) = some i.size := by
  obtain ⟨d, j, hd, hj, h1, h2, _⟩ := TI.parts (ty h)
  refine ⟨d, hd, ?_, by rw [hj]; simp [h2]⟩
  cases hk' : i.kd <;> rw [hk'] at h1 hk <;> first | (cases hk; done) | (cases d <;> first | rfl | (simp [Kd.is] at h1; done))
theorem ty_bo {T : Nat} {i : TI} (h : tt[T]? = some i) (hk : i.kd = .bo) : Try.prog.underlying T = some .bool := by
  obtain ⟨d, j, hd, hj, h1, _⟩ := TI.parts (ty h)
  rw [hk] at h1
  cases d <;> first | exact hd | (simp [Kd.is] at h1; done)
theorem ty_sr {T : Nat} {i : TI} (h : tt[T]? = some i) (hk : i.kd = .sr) : Try.prog.underlying T = some .string := by
  obtain ⟨d, j, hd, hj, h1, _⟩ := TI.parts (ty h)
  rw [hk] at h1
  cases d <;> first | exact hd | (simp [Kd.is] at h1; done)
theorem ty_it {T : Nat} {i : TI} {k : IntKind} (h : tt[T]? = some i) (hk : i.kd = .it k) : Try.prog.underlying T = some (.int k) := by
  obtain ⟨d, j, hd, hj, h1, _⟩ := TI.parts (ty h)
  rw [hk] at h1
  cases d <;> first | (simp only [Kd.is] at h1; have := eq_of_beq h1; subst this; exact hd) | (simp [Kd.is] at h1; done)
theorem ty_sl {T : Nat} {i : TI} {e : Nat} (h : tt[T]? = some i) (hk : i.kd = .sl e) : Try.prog.underlying T = some (.slice e) := by
  obtain ⟨d, j, hd, hj, h1, _⟩ := TI.parts (ty h)
  rw [hk] at h1
  cases d <;> first | (simp only [Kd.is] at h1; have := eq_of_beq h1; subst this; exact hd) | (simp [Kd.is] at h1; done)
theorem ty_pt {T : Nat} {i : TI} {e : Nat} (h : tt[T]? = some i) (hk : i.kd = .pt e) : Try.prog.underlying T = some (.pointer e) := by
  obtain ⟨d, j, hd, hj, h1, _⟩ := TI.parts (ty h)
  rw [hk] at h1
  cases d <;> first | (simp only [Kd.is] at h1; have := eq_of_beq h1; subst this; exact hd) | (simp [Kd.is] at h1; done)
theorem ty_ar {T : Nat} {i : TI} {n e : Nat} (h : tt[T]? = some i) (hk : i.kd = .ar n e) : Try.prog.underlying T = some (.array n e) := by
  obtain ⟨d, j, hd, hj, h1, _⟩ := TI.parts (ty h)
  rw [hk] at h1
  cases d <;> first | (simp only [Kd.is, Bool.and_eq_true] at h1; have := eq_of_beq h1.1; have := eq_of_beq h1.2; subst_vars; exact hd) | (simp [Kd.is] at h1; done)
theorem ty_size {T : Nat} {i : TI} (h : tt[T]? = some i) (w : World) : (sizeOf T).run Try.prog w = .ok i.size w := by
  obtain ⟨d, j, hd, hj, h1, h2, _⟩ := TI.parts (ty h)
  simp [sizeOf, typeInfo, hj, h2, go_sem]

section
variable {X : Cx} {φ : Fi} {κ : Ka} {f : Nat → Ct} {L : Ct} {s : AS} {a : Act} {w w' : World} {o : Oper} {av : AV}
/-! what a pointer leads to -/
/-- the cells from an address on: in every world that keeps what the state speaks of -/
theorem SatW.cells (h : SatW X φ κ f L s a w) (hb : Below w.heap.size w w') {x : Operand} {b u off : Nat} {T : TypeId} {l : List AV} (hx : aev s x = .bp b u off) (hs : s.b[b]? = some ⟨u, .c T l⟩) :
    ∃ g vs, a.eval x = .pointer (some ⟨g, off, none⟩) ∧ w'.heap[g]? = some (.cells vs.toArray T (0, 0)) ∧ RC w φ κ X.R l vs Ct.z ∧ (∀ v ∈ vs, v.oneCell' = true) := by
  have h1 := h.evs hx
  have h2 := h.sl b _ hs
  generalize a.eval x = p at h1
  cases h1 with
  | bp hg =>
    cases h2 with
    | c hg' hh hr ho hS =>
      rw [hg] at hg'; injection hg' with hg'; subst hg'
      refine ⟨_, _, rfl, ?_, hr, ho⟩
      rw [hb.block _ (h.blk (.inr ⟨b, (List.getElem?_eq_some_iff.1 hs).1, by rw [hS]; simp⟩))]
      exact hh
theorem run_loadAt_flat {T : TypeId} {d : TypeDesc} {b o : Nat} {v : Value} (w : World) (hu : Try.prog.underlying T = some d) (hd : d.isRow = false) (hc : w.cell? ⟨b, o, none⟩ = some v) : (Instr.loadAt T (.pointer (some ⟨b, o, none⟩))).run Try.prog w = .ok v w := by
  have hagg : (isAgg T).run Try.prog w = .ok false w := by
    unfold isAgg
    rw [Sem.run_bind, run_underlying hu w]
    cases d <;> first | rfl | (simp [TypeDesc.isRow] at hd; done)
  simp [Instr.loadAt, Instr.sureAddr, loadVar, hagg, load, hc, Sem.run, go_sem]
theorem pq_load1 {T T' : TypeId} {x : Operand} {b u off : Nat} {l : List AV} {i : TI} (ho : o.op = .load T x) (hx : aev s x = .bp b u off) (hs : s.b[b]? = some ⟨u, .c T' l⟩)
    (hT : tt[T]? = some i) (hk : (match i.kd with | .st _ => true | .ar _ _ => true | _ => false) = false) (hl : l[off]? = some av) : Pq Try.prog X s o av := .of_run fun X φ κ f a w h => by
  obtain ⟨d, hd, hr, _⟩ := ty_flat hT hk
  obtain ⟨g, vs, he, hh, hc, _⟩ := h.cells (Below.refl _ _) hx hs
  obtain ⟨v, hv, hrv⟩ := hc.at_ hl
  refine ⟨v, hrv, fun w' hb => ?_⟩
  obtain ⟨g', vs', he', hh', hc', _⟩ := h.cells hb hx hs
  rw [he] at he'; injection he' with he'; injection he' with he'; injection he' with he' _; subst he'
  have hh0 : w'.heap[g]? = w.heap[g]? := hb.block g (Array.getElem?_eq_some_iff.1 hh).1
  have hcell : w'.cell? ⟨g, off, none⟩ = some v := by
    rw [cell_of_row w' g off vs.toArray T' (0, 0) (hh0.trans hh)]; simpa using hv
  simp only [execOp, ho, he, Sem.run_bind, run_loadAt_flat w' hd hr hcell]; simp [go_sem]
theorem RC.drop_ {R : Nat → Prop} {l : List AV} {us : List Value} (h : RC w φ κ R l us Ct.z) (n m : Nat) : RC w φ κ R ((l.drop n).take m) ((us.drop n).take m) Ct.z :=
  RC.of_at (by simp [h.length]) fun i a hi => by
    rw [List.getElem?_take] at hi ⊢
    split at hi
    · rename_i him
      rw [if_pos him, List.getElem?_drop]
      rw [List.getElem?_drop] at hi
      exact h.at_ hi
    · cases hi
theorem pq_loadN {T T' : TypeId} {x : Operand} {b u off : Nat} {l : List AV} {i : TI} (ho : o.op = .load T x) (hx : aev s x = .bp b u off) (hs : s.b[b]? = some ⟨u, .c T' l⟩)
    (hT : tt[T]? = some i) (hk : (match i.kd with | .st _ => true | .ar _ _ => true | _ => false) = true) (hl : Nat.ble (off + i.size) l.length = true) : Pq Try.prog X s o (.ag ((l.drop off).take i.size)) := .of_run fun X φ κ f a w h => by
  have hl := Nat.le_of_ble_eq_true hl
  obtain ⟨d, hd, hr, hi⟩ := ty_row hT hk
  obtain ⟨g, vs, he, hh, hc, h1⟩ := h.cells (Below.refl _ _) hx hs
  have hlen := hc.length
  refine ⟨_, .ag (hc.drop_ off i.size) (fun v hv => h1 v (List.mem_of_mem_drop (List.mem_of_mem_take hv))), fun w' hb => ?_⟩
  have hh0 : w'.heap[g]? = w.heap[g]? := hb.block g (Array.getElem?_eq_some_iff.1 hh).1
  have hrange : w'.rangeAt g off ((vs.drop off).take i.size) := fun j v hv => by
    rw [cell_of_row w' g (off + j) vs.toArray T' (0, 0) (hh0.trans hh)]
    rw [List.getElem?_take] at hv
    split at hv
    · rw [List.getElem?_drop] at hv; simpa using hv
    · cases hv
  simp only [execOp, ho, he, Sem.run_bind, run_loadAt_mid w' g off T _ d hrange hd hr (by rw [hi]; simp; omega)]; simp [go_sem]

/-! elements of slices -/
theorem RE.at' {R : Nat → Prop} {k : Nat} : ∀ {s : List (List AV)} {us : List Value} {S : Ct}, RE w φ κ R k s us S → ∀ {i : Nat} {c : List AV}, s[i]? = some c → ∃ cs T, RC w φ κ R c cs T ∧ cs.length = k ∧ ((∀ u ∈ cs, u.oneCell' = true) ∧ ∀ x ∈ c, x.leaf = true) ∧ ∀ j u, cs[j]? = some u → us[i * k + j]? = some u
  | _, _, _, .nil, i, a, h => by simp at h
  | _, _, _, .cons (us := us) (vs := vs) h1 hk o b c, i, a, h => by
    cases i with
    | zero =>
      simp at h; subst h
      refine ⟨us, _, h1, hk, o, fun j u hu => ?_⟩
      have hj : j < us.length := (List.getElem?_eq_some_iff.1 hu).1
      simpa [List.getElem?_append_left hj] using hu
    | succ i =>
      simp at h
      obtain ⟨cs, T, hr, hl, ho, hc⟩ := RE.at' b h
      refine ⟨cs, T, hr, hl, ho, fun j u hu => ?_⟩
      rw [List.getElem?_append_right (by rw [hk, Nat.add_mul]; omega), hk]
      rw [show (i + 1) * k + j - k = i * k + j by rw [Nat.add_mul]; omega]
      exact hc j u hu
theorem RC.at' {R : Nat → Prop} : ∀ {l : List AV} {us : List Value} {S : Ct}, RC w φ κ R l us S → (∀ x ∈ l, x.leaf = true) → ∀ {i : Nat} {a : AV}, l[i]? = some a → ∃ v, us[i]? = some v ∧ RV w φ κ R a.cp v Ct.z
  | _, _, _, h, hl, i, a, hi => by
    have := h.cp hl
    obtain ⟨v, hv, hr⟩ := this.at_ (i := i) (a := a.cp) (by simp [hi])
    exact ⟨v, hv, hr⟩
/-- an element of a slice that may be read -/
theorem SatW.elem (h : SatW X φ κ f L s a w) {x : Operand} {k i off : Nat} {s' : List (List AV)} {c : List AV} (hx : aev s x = .rp k s' i off) (hc : s'[i]? = some c) :
    ∃ g o cs, a.eval x = .pointer (some ⟨g, o + off, none⟩) ∧ RC w φ κ X.R c cs Ct.z ∧ cs.length = k ∧ (∀ u ∈ cs, u.oneCell' = true) ∧ ∀ w', Below w.heap.size w w' → w'.rangeAt g o cs := by
  have h1 := h.evs hx
  generalize a.eval x = p at h1
  cases h1 with
  | rp he hR hcell =>
    rename_i g o us
    obtain ⟨cs, hr, hk, h1, hat⟩ := he.at_ hc
    refine ⟨g, o + i * k, cs, by rw [Nat.add_assoc], hr, hk, h1.1, fun w' hb j v hv => ?_⟩
    rw [World.cell?_of_block (a := ⟨g, _, none⟩) (hb.block g (h.blk (.inl hR)))]
    have := hcell _ _ (hat j v hv)
    rwa [show o + i * k + j = o + (i * k + j) by omega]
/-- an element of an array of one's own -/
theorem SatW.elemo (h : SatW X φ κ f L s a w) {x : Operand} {b u k i off e : Nat} {s' : List (List AV)} {c : List AV} (hx : aev s x = .ep b u k i off) (hs : s.b[b]? = some ⟨u, .r e k s'⟩) (hc : s'[i]? = some c) :
    ∃ g cs, a.eval x = .pointer (some ⟨g, i * k + off, none⟩) ∧ (∃ T, RC w φ κ X.R c cs T) ∧ (∀ x ∈ c, x.leaf = true) ∧ cs.length = k ∧ (∀ u ∈ cs, u.oneCell' = true) ∧ ∀ w', Below w.heap.size w w' → w'.rangeAt g (i * k) cs := by
  have h1 := h.evs hx
  have h2 := h.sl b _ hs
  have hown : ∀ x, f b x ≠ 0 → x < w.heap.size := fun x hx => h.blk (.inr ⟨b, (List.getElem?_eq_some_iff.1 hs).1, hx⟩)
  generalize f b = S0 at h2 hown
  generalize a.eval x = p at h1
  cases h1 with
  | @ep _ _ _ _ _ g _ _ hκ =>
    cases h2 with
    | r hκ' hv =>
      rw [hκ] at hκ'; injection hκ' with hκ'; subst hκ'
      cases hv with
      | ne => simp at hc
      | @ow _ _ _ _ _ cur us _ _ he hh hle hm hsz htk hS =>
        obtain ⟨cs, T, hr, hk, h1, hat⟩ := RE.at' he hc
        refine ⟨g, cs, rfl, ⟨T, hr⟩, h1.2, hk, h1.1, fun w' hb j v hv => ?_⟩
        have hg : g < w.heap.size := hown g (by rw [hS]; simp)
        rw [cell_of_row w' g (i * k + j) cur e (0, 0) ((hb.block g hg).trans hh)]
        have := hat j v hv
        rw [← htk, List.getElem?_take] at this
        split at this
        · simpa using this
        · cases this
theorem pq_load1_rp {T : TypeId} {x : Operand} {k i off : Nat} {s' : List (List AV)} {c : List AV} {ti : TI} (ho : o.op = .load T x) (hx : aev s x = .rp k s' i off)
    (hT : tt[T]? = some ti) (hk : (match ti.kd with | .st _ => true | .ar _ _ => true | _ => false) = false) (hcl : s'[i]? = some c ∧ c[off]? = some av) : Pq Try.prog X s o av := .of_run fun X φ κ f a w h => by
  obtain ⟨hc, hl⟩ := hcl
  obtain ⟨d, hd, hr, _⟩ := ty_flat hT hk
  obtain ⟨g, o', cs, he, hrc, hkl, _, hrange⟩ := h.elem hx hc
  obtain ⟨v, hv, hrv⟩ := hrc.at_ hl
  refine ⟨v, hrv, fun w' hb => ?_⟩
  simp only [execOp, ho, he, Sem.run_bind, run_loadAt_flat w' hd hr (hrange w' hb off v hv)]; simp [go_sem]
theorem pq_loadN_rp {T : TypeId} {x : Operand} {k i off : Nat} {s' : List (List AV)} {c : List AV} {ti : TI} (ho : o.op = .load T x) (hx : aev s x = .rp k s' i off)
    (hT : tt[T]? = some ti) (hk : (match ti.kd with | .st _ => true | .ar _ _ => true | _ => false) = true) (hcl : s'[i]? = some c ∧ Nat.ble (off + ti.size) c.length = true) : Pq Try.prog X s o (.ag ((c.drop off).take ti.size)) := .of_run fun X φ κ f a w h => by
  obtain ⟨hc, hl⟩ := hcl
  have hl := Nat.le_of_ble_eq_true hl
  obtain ⟨d, hd, hr, hi⟩ := ty_row hT hk
  obtain ⟨g, o', cs, he, hrc, hkl, h1, hrange⟩ := h.elem hx hc
  have hlen := hrc.length
  refine ⟨_, .ag (hrc.drop_ off ti.size) (fun v hv => h1 v (List.mem_of_mem_drop (List.mem_of_mem_take hv))), fun w' hb => ?_⟩
  have hr2 : w'.rangeAt g (o' + off) ((cs.drop off).take ti.size) := fun j v hv => by
    rw [List.getElem?_take] at hv
    split at hv
    · rw [List.getElem?_drop] at hv
      have := hrange w' hb _ _ hv
      rwa [show o' + off + j = o' + (off + j) by omega]
    · cases hv
  simp only [execOp, ho, he, Sem.run_bind, run_loadAt_mid w' g (o' + off) T _ d hr2 hd hr (by rw [hi]; simp; omega)]; simp [go_sem]
theorem pq_load1_ep {T : TypeId} {x : Operand} {b u k i off e : Nat} {s' : List (List AV)} {c : List AV} {ti : TI} (ho : o.op = .load T x) (hx : aev s x = .ep b u k i off) (hs : s.b[b]? = some ⟨u, .r e k s'⟩)
    (hT : tt[T]? = some ti) (hk : (match ti.kd with | .st _ => true | .ar _ _ => true | _ => false) = false) (hcl : s'[i]? = some c ∧ c[off]? = some av) : Pq Try.prog X s o av.cp := .of_run fun X φ κ f a w h => by
  obtain ⟨hc, hl⟩ := hcl
  obtain ⟨d, hd, hr, _⟩ := ty_flat hT hk
  obtain ⟨g, cs, he, ⟨S, hrc⟩, hlf, hkl, _, hrange⟩ := h.elemo hx hs hc
  obtain ⟨v, hv, hrv⟩ := hrc.at' hlf hl
  refine ⟨v, hrv, fun w' hb => ?_⟩
  simp only [execOp, ho, he, Sem.run_bind, run_loadAt_flat w' hd hr (hrange w' hb off v hv)]; simp [go_sem]
theorem pq_loadN_ep {T : TypeId} {x : Operand} {b u k i off e : Nat} {s' : List (List AV)} {c : List AV} {ti : TI} (ho : o.op = .load T x) (hx : aev s x = .ep b u k i off) (hs : s.b[b]? = some ⟨u, .r e k s'⟩)
    (hT : tt[T]? = some ti) (hk : (match ti.kd with | .st _ => true | .ar _ _ => true | _ => false) = true) (hcl : s'[i]? = some c ∧ Nat.ble (off + ti.size) c.length = true) : Pq Try.prog X s o (.ag (((c.map AV.cp).drop off).take ti.size)) := .of_run fun X φ κ f a w h => by
  obtain ⟨hc, hl⟩ := hcl
  have hl := Nat.le_of_ble_eq_true hl
  obtain ⟨d, hd, hr, hi⟩ := ty_row hT hk
  obtain ⟨g, cs, he, ⟨S, hrc⟩, hlf, hkl, h1, hrange⟩ := h.elemo hx hs hc
  have hrc := hrc.cp hlf
  have hlen := hrc.length
  simp only [List.length_map] at hlen
  refine ⟨_, .ag (hrc.drop_ off ti.size) (fun v hv => h1 v (List.mem_of_mem_drop (List.mem_of_mem_take hv))), fun w' hb => ?_⟩
  have hr2 : w'.rangeAt g (i * k + off) ((cs.drop off).take ti.size) := fun j v hv => by
    rw [List.getElem?_take] at hv
    split at hv
    · rw [List.getElem?_drop] at hv
      have := hrange w' hb _ _ hv
      rwa [show i * k + off + j = i * k + (off + j) by omega]
    · cases hv
  simp only [execOp, ho, he, Sem.run_bind, run_loadAt_mid w' g (i * k + off) T _ d hr2 hd hr (by rw [hi]; simp; omega)]; simp [go_sem]

/-! addresses -/
theorem addr_mid (b o j : Nat) : (⟨b, o, none⟩ : Addr).add j = ⟨b, o + j, none⟩ := Addr.add_mid b o j
theorem run_field {T n o' z g off : Nat} {i : TI} {fl : List (Nat × Nat)} (hT : tt[T]? = some i) (hk : i.kd = .st fl) (hn : fl[n]? = some (o', z)) (hz : 0 < z) (w : World) :
    (Instr.fieldAt T (.pointer (some ⟨g, off, none⟩)) n).run Try.prog w = .ok (.pointer (some ⟨g, off + o', none⟩)) w := by
  obtain ⟨fs, hu, hf⟩ := TI.row (ty hT) hk
  obtain ⟨x, hx, rfl, hs⟩ := hf n o' z hn
  have hsz : (sizeOf x.type).run Try.prog w = .ok z w := by
    cases hq : Try.prog.info? x.type with
    | none => rw [hq] at hs; simp at hs; omega
    | some j => rw [hq] at hs; simp at hs; simp [sizeOf, typeInfo, hq, hs, go_sem]
  simp [Instr.fieldAt, run_underlying hu, hx, Instr.sureAddr, fieldPlace, hsz, show ¬ z = 0 by omega, addr_mid, go_sem]
theorem pq_field {T n : Nat} {x : Operand} {b u off o' z : Nat} {i : TI} {fl : List (Nat × Nat)} (ho : o.op = .fieldAddr T x n) (hx : aev s x = .bp b u off) (hT : tt[T]? = some i) (hk : i.kd = .st fl) (hn : fl[n]? = some (o', z)) (hz : Nat.ble 1 z = true) : Pq Try.prog X s o (.bp b u (off + o')) := .of_run fun X φ κ f a w h => by
  have hz : 0 < z := Nat.le_of_ble_eq_true hz
  have h1 := h.evs hx
  generalize hp : a.eval x = p at h1
  cases h1 with
  | bp hg => exact ⟨_, .bp hg, fun w' _ => by simp only [execOp, ho, hp, Sem.run_bind, run_field hT hk hn hz w']; simp [go_sem]⟩
theorem pq_field_rp {T n : Nat} {x : Operand} {k j off o' z : Nat} {s' : List (List AV)} {i : TI} {fl : List (Nat × Nat)} (ho : o.op = .fieldAddr T x n) (hx : aev s x = .rp k s' j off) (hT : tt[T]? = some i) (hk : i.kd = .st fl) (hn : fl[n]? = some (o', z)) (hz : Nat.ble 1 z = true) : Pq Try.prog X s o (.rp k s' j (off + o')) := .of_run fun X φ κ f a w h => by
  have hz : 0 < z := Nat.le_of_ble_eq_true hz
  have h1 := h.evs hx
  generalize hp : a.eval x = p at h1
  cases h1 with
  | rp he hR hc => exact ⟨_, .rp he hR hc, fun w' _ => by simp only [execOp, ho, hp, Sem.run_bind, run_field hT hk hn hz w']; simp [go_sem, Nat.add_assoc]⟩
theorem pq_field_ep {T n : Nat} {x : Operand} {b u k j off o' z : Nat} {i : TI} {fl : List (Nat × Nat)} (ho : o.op = .fieldAddr T x n) (hx : aev s x = .ep b u k j off) (hT : tt[T]? = some i) (hk : i.kd = .st fl) (hn : fl[n]? = some (o', z)) (hz : Nat.ble 1 z = true) : Pq Try.prog X s o (.ep b u k j (off + o')) := .of_run fun X φ κ f a w h => by
  have hz : 0 < z := Nat.le_of_ble_eq_true hz
  have h1 := h.evs hx
  generalize hp : a.eval x = p at h1
  cases h1 with
  | ep hκ => exact ⟨_, .ep hκ, fun w' _ => by simp only [execOp, ho, hp, Sem.run_bind, run_field hT hk hn hz w']; simp [go_sem, Nat.add_assoc]⟩
theorem run_index {T e : Nat} {i ie : TI} {g off n c : Nat} {k : IntKind} {j : Int} (hT : tt[T]? = some i) (hk : i.kd = .sl e) (he : tt[e]? = some ie) (h0 : 0 ≤ j) (hj : j < n) (w : World) :
    (Instr.indexAt T (.slice (some ⟨g, off, none⟩) n c) (.int k j)).run Try.prog w = .ok (.pointer (some ⟨g, off + j.toNat * ie.size, none⟩)) w := by
  simp [Instr.indexAt, asIntOf, run_underlying (ty_sl hT hk), ty_size he, h0, hj, addr_mid, go_sem]
theorem pq_index_ro {T e : Nat} {x y : Operand} {k : Nat} {s' : List (List AV)} {i ie : TI} {kk : IntKind} {j : Int} (ho : o.op = .indexAddr T x y) (hx : aev s x = .sl none k s') (hy : aev s y = .sc (.int kk j)) (hT : tt[T]? = some i) (hk : i.kd = .sl e) (he : tt[e]? = some ie) (hsz : ie.size = k)
    (h0 : 0 ≤ j) (hj : j < s'.length) : Pq Try.prog X s o (.rp k s' j.toNat 0) := .of_run fun X φ κ f a w h => by
  have h1 := h.evs hx
  have h2 := h.evc hy
  generalize hp : a.eval x = p at h1
  cases h1 with
  | ni => simp at hj; omega
  | ne => simp at hj; omega
  | ro hre hle hm hR hc =>
    rename_i b o'' c us
    refine ⟨_, .rp hre (hR (by rintro rfl; simp at hj; omega)) hc, fun w' _ => ?_⟩
    simp only [execOp, ho, hp, h2, Sem.run_bind, run_index hT hk he h0 hj w']; simp [go_sem, hsz]
theorem pq_index_hd {T e : Nat} {x y : Operand} {b u k e' : Nat} {s' : List (List AV)} {i ie : TI} {kk : IntKind} {j : Int} (ho : o.op = .indexAddr T x y) (hx : aev s x = .hd b u) (hs : s.b[b]? = some ⟨u, .r e' k s'⟩) (hy : aev s y = .sc (.int kk j)) (hT : tt[T]? = some i) (hk : i.kd = .sl e) (he : tt[e]? = some ie) (hsz : ie.size = k)
    (h0 : 0 ≤ j) (hj : j < s'.length) : Pq Try.prog X s o (.ep b u k j.toNat 0) := .of_run fun X φ κ f a w h => by
  have h1 := h.evs hx
  have h2 := h.evc hy
  have h3 := h.sl b _ hs
  generalize f b = S at h3
  generalize hp : a.eval x = p at h1
  cases h1 with
  | hd hκ _ =>
    cases h3 with
    | r hκ' hv =>
      rw [hκ] at hκ'; injection hκ' with hκ'; subst hκ'
      cases hv with
      | ni => simp at hj; omega
      | ne => simp at hj; omega
      | ow hre hh hle hm hsz' htk hS =>
        refine ⟨_, .ep hκ, fun w' _ => ?_⟩
        simp only [execOp, ho, hp, h2, Sem.run_bind, run_index hT hk he h0 hj w']; simp [go_sem, hsz]
end
end Go.Proofs.Ytkdbedbefojieaa
