/-
  Texts joined: Br, BrA, BrE.
-/
import Derived.Test.YtkmbmhbhpjjchaaGreatZ1
import Derived.Test.YtkmbmhbhpjjchaaGreatZ2
import Derived.Test.YtkmbmhbhpjjchaaGreatRows
import Derived.OpenShut
import Derived.Carry
import Derived.ChangeArms
import Derived.ChangeSame
import Derived.ChangeMaps5
import Derived.JoinedCond
import Derived.Deep.Slices
namespace Go.Proofs.YtkmbmhbhpjjchaaGreat
set_option linter.unusedVariables false
set_option linter.unusedSimpArgs false
open Go.RowKit Go.ChangeShapes Go.WideShapes Go.ChangeAt Go.Deep
set_option maxRecDepth 100000

/-! bulk -/
theorem bulk_one {H : Type} (d : DataW H) : 1 ≤ Rows.uptoBulk d := by
  cases d with
  | lit l => cases l <;> simp [Rows.uptoBulk]
  | _ => simp [Rows.uptoBulk]
theorem bulk_part {H : Type} {d : DataW H} {l : List (DataW H)} (h : d ∈ l) : Rows.uptoBulk d ≤ Rows.uptoBulkAll l := by
  induction l with
  | nil => cases h
  | cons x r ih =>
    simp only [Rows.uptoBulkAll]
    cases List.mem_cons.1 h with
    | inl e => subst e; omega
    | inr e => have := ih e; omega
theorem bulk_length {H : Type} (l : List (DataW H)) : l.length ≤ Rows.uptoBulkAll l := by
  induction l with
  | nil => simp [Rows.uptoBulkAll]
  | cons x r ih => have := bulk_one x; simp only [Rows.uptoBulkAll, List.length_cons]; omega

/-- what reads as data of a type is k cells of my data; N: its bulk -/
def OA (P : Program) (t : TypeId) (k : Nat) {α : Type} (ok : Nat → α → Prop) (e : α → List AV) : Prop :=
  P.cellsOf t = k ∧ (∀ m n d, m ≤ n → ok m d → ok n d) ∧ ∀ {H : Type} {enc : TypeId × Value → H} {w : World} {base : Nat} {fuel : Nat} {cs : List Value} {x : DataW H × List MemPlace},
    DataW.trod enc P w base (fun _ => true) true fuel t cs = some x → ∃ d : α, ok (Rows.uptoBulk x.1) d ∧ (∀ φ κ, RC w φ κ (fun b => b < w.heap.size) (e d) cs Ct.z) ∧ (∀ u ∈ cs, u.oneCell' = true) ∧ (∀ a ∈ e d, a.leaf = true) ∧ cs.length = k
section
variable {P : Program} {t e : TypeId} {α β : Type} {ok : Nat → α → Prop} {k : Nat} {en : α → List AV}
theorem OA.map (h : OA P t k ok en) (f : α → β) {ok' : Nat → β → Prop} {en' : β → List AV} (hm : ∀ m n d, m ≤ n → ok' m d → ok' n d) (h1 : ∀ n a, ok n a → ok' n (f a)) (h2 : ∀ a, en' (f a) = en a) : OA P t k ok' en' :=
  ⟨h.1, hm, fun hx => by
    obtain ⟨d, a, b, c⟩ := h.2.2 hx
    exact ⟨f d, h1 _ _ a, by rw [h2]; exact b, by rw [h2]; exact c⟩⟩
theorem OA.wmap (h : OA P t k ok en) (f : α → β) {ok' : Nat → β → Prop} {en' : β → List AV} (hm : ∀ m n d, m ≤ n → ok' m d → ok' n d) (h1 : ∀ n a, ok n a → ok' n (f a)) (h2 : ∀ n a, ok n a → en' (f a) = en a) : OA P t k ok' en' :=
  ⟨h.1, hm, fun hx => by
    obtain ⟨d, a, b, c⟩ := h.2.2 hx
    exact ⟨f d, h1 _ _ a, by rw [h2 _ _ a]; exact b, by rw [h2 _ _ a]; exact c⟩⟩
theorem RC.one_ {w : World} {φ : Fi} {κ : Ka} {R : Nat → Prop} {a : AV} {v : Value} (h : RV w φ κ R a v Ct.z) : RC w φ κ R [a] [v] Ct.z := .cons (S := Ct.z) (T := Ct.z) h .nil fun _ => rfl
theorem oa_int {κ : IntKind} (ht : P.underlying t = some (.int κ)) (hc : P.cellsOf t = 1) : OA P t 1 (fun _ (n : Int) => (Lit.int κ n).wf = true) (fun n => [.sc (.int κ n)]) :=
  ⟨hc, fun _ _ _ _ h => h, fun h => by
    obtain ⟨n, rfl, _, hw⟩ := DataW.trod_int ht h
    exact ⟨n, hw, fun _ _ => RC.one_ (.sc rfl), fun u hu => by simp at hu; subst hu; rfl, fun a ha => by simp at ha; subst ha; rfl, rfl⟩⟩
theorem oa_bool (ht : P.underlying t = some .bool) (hc : P.cellsOf t = 1) : OA P t 1 (fun _ (_ : Bool) => True) (fun n => [.sc (.bool n)]) :=
  ⟨hc, fun _ _ _ _ h => h, fun h => by
    obtain ⟨n, rfl, _⟩ := DataW.trod_bool ht h
    exact ⟨n, trivial, fun _ _ => RC.one_ (.sc rfl), fun u hu => by simp at hu; subst hu; rfl, fun a ha => by simp at ha; subst ha; rfl, rfl⟩⟩
theorem oa_string (ht : P.underlying t = some .string) (hc : P.cellsOf t = 1) : OA P t 1 (fun m (n : ByteArray) => n.size < m) (fun n => [.sc (.string n)]) :=
  ⟨hc, fun _ _ _ h k => Nat.lt_of_lt_of_le k h, fun h => by
    obtain ⟨n, rfl, rfl, hw⟩ := DataW.trod_string ht h
    exact ⟨n, by (simp [Rows.uptoBulk]), fun _ _ => RC.one_ (.sc rfl), fun u hu => by simp at hu; subst hu; rfl, fun a ha => by simp at ha; subst ha; rfl, rfl⟩⟩
theorem RE.of_rows {w : World} {φ : Fi} {κ : Ka} {R : Nat → Prop} {k : Nat} {en : α → List AV} {l : List α} (css : Nat → List Value) (h : ∀ i x, l[i]? = some x → RC w φ κ R (en x) (css i) Ct.z ∧ (∀ u ∈ css i, u.oneCell' = true) ∧ (∀ a ∈ en x, a.leaf = true) ∧ (css i).length = k) :
    RE w φ κ R k (l.map en) ((List.range l.length).flatMap css) Ct.z := by
  induction l generalizing css with
  | nil => exact .nil
  | cons x l ih =>
    have h0 := h 0 x rfl
    have h1 := ih (fun i => css (i + 1)) fun i y hy => h (i + 1) y (by simpa using hy)
    rw [List.length_cons, List.range_succ_eq_map, List.flatMap_cons, List.flatMap_map]
    exact .cons (S := Ct.z) (T := Ct.z) h0.1 h0.2.2.2 ⟨h0.2.1, h0.2.2.1⟩ h1 fun _ => rfl
theorem flat_at {css : Nat → List Value} {k n : Nat} (h : ∀ i, i < n → (css i).length = k) : ∀ {j : Nat} {u : Value}, ((List.range n).flatMap css)[j]? = some u → ∃ i r, i < n ∧ j = i * k + r ∧ (css i)[r]? = some u := by
  induction n generalizing css with
  | zero => intro j u hj; simp at hj
  | succ n ih =>
    intro j u hj
    rw [List.range_succ_eq_map, List.flatMap_cons, List.flatMap_map] at hj
    have h0 := h 0 (by omega)
    by_cases hjk : j < k
    · rw [List.getElem?_append_left (by omega)] at hj
      exact ⟨0, j, by omega, by omega, hj⟩
    · rw [List.getElem?_append_right (by omega)] at hj
      obtain ⟨i, r, hi, hr, hu⟩ := ih (css := fun i => css (i + 1)) (fun i hi => h (i + 1) (by omega)) hj
      refine ⟨i + 1, r, by omega, ?_, hu⟩
      rw [Nat.add_mul]; omega
theorem spot_none {w : World} {a : Addr} {u : Value} (h : w.cell? (a.add 0) = some u) : a.spot = none := by
  obtain ⟨ab, ao, asp⟩ := a
  cases hsp : asp with
  | none => rfl
  | some s =>
    rw [hsp] at h
    simp [Addr.add, World.cell?] at h
    split at h <;> simp at h
theorem oa_slice (hk : 0 < k) (ht : P.underlying t = some (.slice e)) (hc : P.cellsOf t = 1) (hE : OA P e k ok en) : OA P t 1 (fun N (l : List α) => (∀ x ∈ l, ok N x) ∧ l.length < N) (fun l => [.sl none k (l.map en)]) := by
  refine ⟨hc, fun m n d h k => ⟨fun x hx => hE.2.1 _ _ _ h (k.1 x hx), Nat.lt_of_lt_of_le k.2 h⟩, ?_⟩
  intro H enc w base fuel cs x h
  rcases open_slice ht h with ⟨rfl, rfl⟩ | ⟨a, len, cap, m, n, D, Pl, rfl, hb, hl, hm, hmm, hx, hi⟩
  · exact ⟨[], ⟨fun x hx => by simp at hx, by simp [Rows.uptoBulk]⟩, fun _ _ => RC.one_ .ni, fun u hu => by simp at hu; subst hu; rfl, fun a ha => by simp at ha; subst ha; rfl, rfl⟩
  · obtain rfl : m = cap := by simpa using hmm
    clear hmm
    have hbulk : ∀ i, i < len → Rows.uptoBulk (D i) ≤ Rows.uptoBulk x.1 := by
      intro i hi
      rw [hx]
      have := bulk_part (d := D i) (l := (List.range len).map D) (List.mem_map.2 ⟨i, List.mem_range.2 hi, rfl⟩)
      simp only [Rows.uptoBulk]
      omega
    have hlenb : len < Rows.uptoBulk x.1 := by
      rw [hx]
      have := bulk_length ((List.range len).map D)
      simp only [Rows.uptoBulk]
      simp only [List.length_map, List.length_range] at this
      omega
    have hall : ∀ i, i < len → ∃ (d : α) (cs' : List Value), (ok (Rows.uptoBulk x.1) d ∧ (∀ φ κ, RC w φ κ (fun b => b < w.heap.size) (en d) cs' Ct.z) ∧ (∀ u ∈ cs', u.oneCell' = true) ∧ (∀ a ∈ en d, a.leaf = true) ∧ cs'.length = k) ∧ ∀ j u, cs'[j]? = some u → w.cell? ((a.add (i * k)).add j) = some u := by
      intro i hil
      obtain ⟨cs', hcs, htr⟩ := hi i (by omega)
      obtain ⟨d, hd0, hd⟩ := hE.2.2 htr
      rw [hE.1] at hcs
      obtain ⟨_, hlen, hat⟩ := World.cells?_some hcs
      exact ⟨d, cs', ⟨hE.2.1 _ _ _ (hbulk i hil) hd0, hd⟩, fun j u hu => (hat j (by have := (List.getElem?_eq_some_iff.1 hu).1; omega)).trans hu⟩
    have hsp0 : 0 < m → a.spot = none := by
      intro h0
      obtain ⟨cs', hcs, _⟩ := hi 0 h0
      rw [hE.1] at hcs
      obtain ⟨_, hlen, hat⟩ := World.cells?_some hcs
      have hz := hat 0 (by omega)
      rw [List.getElem?_eq_getElem (by omega)] at hz
      have e0 : a.add (0 * k) = a := by simp [Addr.add]
      rw [e0] at hz
      exact spot_none hz
    have hex : ∃ (l : List α) (css : Nat → List Value), l.length = len ∧ ∀ i y, l[i]? = some y → (ok (Rows.uptoBulk x.1) y ∧ (∀ φ κ, RC w φ κ (fun b => b < w.heap.size) (en y) (css i) Ct.z) ∧ (∀ u ∈ css i, u.oneCell' = true) ∧ (∀ a ∈ en y, a.leaf = true) ∧ (css i).length = k) ∧ ∀ j u, (css i)[j]? = some u → w.cell? ((a.add (i * k)).add j) = some u := by
      clear hi hbulk hlenb h hx
      revert hall
      clear hl
      induction len with
      | zero => exact fun _ => ⟨[], fun _ => [], rfl, fun i x h => by simp at h⟩
      | succ q ih =>
        intro hall
        obtain ⟨l, css, hl, hq⟩ := ih (fun i hi => hall i (by omega))
        obtain ⟨d, cs', hd, hcs⟩ := hall q (by omega)
        refine ⟨l ++ [d], fun i => if i = q then cs' else css i, by simp [hl], fun i x hx => ?_⟩
        by_cases hik : i < q
        · rw [List.getElem?_append_left (by omega)] at hx
          simp only [show i ≠ q by omega, if_false]
          exact hq i x hx
        · have hik' : i = q := by have := (List.getElem?_eq_some_iff.1 hx).1; simp at this; omega
          subst hik'
          rw [List.getElem?_append_right (by omega), hl] at hx
          simp at hx
          subst hx
          simp only [if_true]
          exact ⟨hd, hcs⟩
    obtain ⟨l, css, hll, hq⟩ := hex
    refine ⟨l, ⟨fun y hy => ?_, by omega⟩, fun φ κ => ?_, fun u hu => by simp at hu; subst hu; rfl, fun a ha => by simp at ha; subst ha; rfl, rfl⟩
    · obtain ⟨i, hi, rfl⟩ := List.mem_iff_getElem.1 hy
      exact (hq i _ (List.getElem?_eq_getElem hi)).1.1
    · refine RC.one_ ?_
      subst hll
      by_cases h0 : m = 0
      · subst h0
        obtain rfl : l = [] := List.eq_nil_of_length_eq_zero (by omega)
        exact .ne
      · obtain ⟨ab, ao, asp⟩ := a
        have hspn := hsp0 (by omega)
        simp only at hspn
        subst hspn
        have hflat : ∀ j u, ((List.range l.length).flatMap css)[j]? = some u → w.cell? ⟨ab, ao + j, none⟩ = some u := by
          intro j u hj
          obtain ⟨i, r, hi, rfl, hu⟩ := flat_at (k := k) (fun i hi => (hq i _ (List.getElem?_eq_getElem hi)).1.2.2.2.2) hj
          have := (hq i _ (List.getElem?_eq_getElem hi)).2 r u hu
          have e1 : (Addr.add (Addr.add ⟨ab, ao, none⟩ (i * k)) r) = ⟨ab, ao + (i * k + r), none⟩ := by
            unfold Addr.add
            split <;> split <;> simp_all [Nat.add_assoc]
          rw [e1] at this
          exact this
        have hE' : RE w φ κ (fun b => b < w.heap.size) k (l.map en) ((List.range l.length).flatMap css) Ct.z := RE.of_rows css fun i x hx => ⟨(hq i x hx).1.2.1 φ κ, (hq i x hx).1.2.2⟩
        have := RV.ro (c := m) (b := ab) (o := ao) hE' (by simp; omega) hm (fun hne => by
          have hl0 : 0 < l.length := by cases l with
            | nil => exact absurd rfl hne
            | cons _ _ => simp
          have hc0 := (hq 0 _ (List.getElem?_eq_getElem hl0)).1.2.2.2.2
          have hz := (hq 0 _ (List.getElem?_eq_getElem hl0)).2 0 _ (List.getElem?_eq_getElem (by omega))
          simp only [Addr.add, Nat.zero_mul, if_true, World.cell?] at hz
          cases hh : w.heap[ab]? with
          | none => simp [hh] at hz
          | some o => exact (Array.getElem?_eq_some_iff.1 hh).1) hflat
        simpa using this
/-- fields from an offset on -/
def OFs (P : Program) (fs : List Field) (off k : Nat) {α : Type} (ok : Nat → α → Prop) (e : α → List AV) : Prop :=
  (∀ m n d, m ≤ n → ok m d → ok n d) ∧ ∀ {H : Type} {enc : TypeId × Value → H} {w : World} {base : Nat} {cs : List Value} {N : Nat},
    (∀ f ∈ fs, ∃ n y, DataW.trod enc P w base (fun _ => true) true n f.type ((cs.drop f.offset).take (P.cellsOf f.type)) = some y ∧ Rows.uptoBulk y.1 ≤ N) → off + k ≤ cs.length →
    ∃ d : α, ok N d ∧ (∀ φ κ, RC w φ κ (fun b => b < w.heap.size) (e d) ((cs.drop off).take k) Ct.z) ∧ (∀ u ∈ (cs.drop off).take k, u.oneCell' = true) ∧ (∀ a ∈ e d, a.leaf = true)
theorem of_nil {off : Nat} : OFs P [] off 0 (fun _ (_ : Unit) => True) (fun _ => []) :=
  ⟨fun _ _ _ _ _ => trivial, fun {H enc w base cs N} _ _ => ⟨(), trivial, fun φ κ => by simp; exact .nil, fun u hu => by simp at hu, fun a ha => by cases ha⟩⟩
theorem of_cons {f : Field} {fs : List Field} {off k2 : Nat} {ok2 : Nat → β → Prop} {en2 : β → List AV} (hoff : f.offset = off) (h1 : OA P f.type k ok en) (h2 : OFs P fs (off + k) k2 ok2 en2) :
    OFs P (f :: fs) off (k + k2) (fun N (d : α × β) => ok N d.1 ∧ ok2 N d.2) (fun d => en d.1 ++ en2 d.2) :=
  ⟨fun m n d h k => ⟨h1.2.1 _ _ _ h k.1, h2.1 _ _ _ h k.2⟩, fun {H enc w base cs N} hf hl => by
    subst hoff
    obtain ⟨n, y, hy, hyb⟩ := hf f (by simp)
    rw [h1.1] at hy
    obtain ⟨a, a1, a2, a3, a4, a5⟩ := h1.2.2 hy
    obtain ⟨b, b1, b2, b3, b4⟩ := h2.2 (cs := cs) (N := N) (fun g hg => hf g (by simp [hg])) (by omega)
    have e0 : (cs.drop f.offset).take (k + k2) = (cs.drop f.offset).take k ++ (cs.drop (f.offset + k)).take k2 := by
      rw [List.take_add, List.drop_drop]
    refine ⟨(a, b), ⟨h1.2.1 _ _ _ hyb a1, b1⟩, fun φ κ => ?_, fun u hu => ?_, fun x hx => ?_⟩
    · rw [e0]; exact (a2 φ κ).append (b2 φ κ) fun _ => rfl
    · rw [e0] at hu; exact (List.mem_append.1 hu).elim (a3 u) (b3 u)
    · exact (List.mem_append.1 hx).elim (a4 x) (b4 x)⟩
theorem oa_struct {fs : Array Field} (ht : P.underlying t = some (.struct fs)) (hc : P.cellsOf t = k) (h : OFs P fs.toList 0 k ok en) : OA P t k ok en :=
  ⟨hc, h.1, fun {H enc w base fuel cs x} hx => by
    obtain ⟨xs, n, _, hxx, hl, hn, hg⟩ := DataW.trod_struct ht hx
    obtain ⟨d, d1, d2, d3, d4⟩ := h.2 (cs := cs) (N := Rows.uptoBulk x.1) (fun f hf => by
      obtain ⟨i, hi, rfl⟩ := List.mem_iff_getElem.1 hf
      have hi' : i < fs.size := by simpa using hi
      have := hg i (fs.toList[i]) (by simp [hi'])
      rw [List.getElem?_eq_getElem (by omega)] at this
      refine ⟨n, _, this, ?_⟩
      have hb := bulk_part (d := (xs[i]'(by omega)).1) (l := xs.map (·.1)) (List.mem_map.2 ⟨_, List.getElem_mem _, rfl⟩)
      rw [hxx]
      simp only [Rows.uptoBulk]
      omega) (by omega)
    rw [hc] at hl
    have e0 : (cs.drop 0).take k = cs := by rw [List.drop_zero]; exact List.take_of_length_le (by omega)
    rw [e0] at d2 d3
    exact ⟨d, d1, d2, d3, d4, hl⟩⟩

/-! arguments -/
variable {H : Type} {enc : TypeId × Value → H} {w : World} {base b0 : Nat} {r : Reach} {v : Value} {d : DataW H} {p : List MemPlace}
theorem arg_ag {fs : Array Field} (ht : P.underlying t = some (.struct fs)) (hE : OA P t k ok en) (hv : Value.okWide P w r b0 t v) (h : DataW.Trod enc P w base (fun _ => true) true t v d p) :
    ∃ x, ok (Rows.uptoBulk d) x ∧ ∀ φ κ, RV w φ κ (fun b => b < w.heap.size) (.ag (en x)) v Ct.z := by
  obtain ⟨cs, rfl, _⟩ := okWide_struct ht hv
  obtain ⟨fuel, hf⟩ := h
  obtain ⟨x, x1, x2, x3, _⟩ := hE.2.2 hf
  simp only [Value.cells] at x2 x3
  refine ⟨x, x1, fun φ κ => ?_⟩
  have := RV.ag (x2 φ κ) x3
  simpa using this
theorem arg_1 {f : α → AV} (hE : OA P t 1 ok (fun x => [f x])) (hv : v.cells.toList = [v]) (h : DataW.Trod enc P w base (fun _ => true) true t v d p) :
    ∃ x, ok (Rows.uptoBulk d) x ∧ ∀ φ κ, RV w φ κ (fun b => b < w.heap.size) (f x) v Ct.z := by
  obtain ⟨fuel, hf⟩ := h
  obtain ⟨x, x1, x2, x3, _⟩ := hE.2.2 hf
  refine ⟨x, x1, fun φ κ => ?_⟩
  have h1 := x2 φ κ
  rw [hv] at h1
  cases h1 with
  | cons a b c => obtain ⟨rfl, rfl⟩ := Ct.split c; exact a
theorem cells_slice (ht : P.underlying t = some (.slice e)) (hv : Value.okWide P w r b0 t v) : v.cells.toList = [v] := by
  unfold Value.okWide at hv
  rw [ht] at hv
  cases v with
  | agg cs => simp only [Cell.okWide, ht] at hv; simp [Cell.ok, ht] at hv
  | tuple cs => simp only [Cell.okWide, ht] at hv; simp [Cell.ok, ht] at hv
  | _ => rfl
theorem cells_int {κ : IntKind} (ht : P.underlying t = some (.int κ)) (hv : Value.okWide P w r b0 t v) : v.cells.toList = [v] := by
  unfold Value.okWide at hv
  rw [ht] at hv
  cases v with
  | agg cs => simp only [Cell.okWide, ht] at hv; simp [Cell.ok, ht] at hv
  | tuple cs => simp only [Cell.okWide, ht] at hv; simp [Cell.ok, ht] at hv
  | _ => rfl
theorem cells_bool (ht : P.underlying t = some .bool) (hv : Value.okWide P w r b0 t v) : v.cells.toList = [v] := by
  unfold Value.okWide at hv
  rw [ht] at hv
  cases v with
  | agg cs => simp only [Cell.okWide, ht] at hv; simp [Cell.ok, ht] at hv
  | tuple cs => simp only [Cell.okWide, ht] at hv; simp [Cell.ok, ht] at hv
  | _ => rfl
theorem cells_string (ht : P.underlying t = some .string) (hv : Value.okWide P w r b0 t v) : v.cells.toList = [v] := by
  unfold Value.okWide at hv
  rw [ht] at hv
  cases v with
  | agg cs => simp only [Cell.okWide, ht] at hv; simp [Cell.ok, ht] at hv
  | tuple cs => simp only [Cell.okWide, ht] at hv; simp [Cell.ok, ht] at hv
  | _ => rfl

/-! what was there reads as it did -/
theorem trodAll_below (hl : laidOutB P = true) {W W' : World} (hb : Below W.heap.size W W') :
    ∀ (ts : List TypeId) (vs : List Value) (ds : List (DataW H)) (ps : List MemPlace), (∀ t ∈ ts, P.readableRec t = true ∧ t < P.types.size) → (∀ x ∈ ps, x.block < W.heap.size) →
      DataW.TrodAll enc P W 0 (fun _ => true) true ts vs ds ps → DataW.TrodAll enc P W' 0 (fun b => decide (b < W.heap.size)) true ts vs ds ps
  | [], [], [], ps, _, _, h => h
  | t :: ts, v :: vs, d :: ds, ps, hr, hlt, h => by
    obtain ⟨p, q, hd, hs, rfl⟩ := h
    have hrt := hr t (by simp)
    exact ⟨p, q, Below.trod hl hrt.1 hrt.2 hd hb fun x hx => hlt x (by simp [hx]), trodAll_below hl hb ts vs ds q (fun t ht => hr t (by simp [ht])) (fun x hx => hlt x (by simp [hx])) hs, rfl⟩
  | [], _ :: _, _, _, _, _, h => by simp [DataW.TrodAll] at h
  | [], [], _ :: _, _, _, _, h => by simp [DataW.TrodAll] at h
  | _ :: _, [], _, _, _, _, h => by simp [DataW.TrodAll] at h
  | _ :: _, _ :: _, [], _, _, _, h => by simp [DataW.TrodAll] at h
/-- THE LAST STEP: the law returns true and leaves alone what was there -/
theorem law_post {f : Func} {s : ChangeSpec} {apart fresh handsOn : Bool} {W W' : World} {args : Array Value} {ds gs : List (DataW H)} {before : List MemPlace} {tb : TypeId}
    (hl : laidOutB P = true) (hv : s.vars = []) (hrt : f.resultTypes = #[tb]) (hub : P.underlying tb = some .bool) (hread : (f.params.toList.all fun t => P.readableRec t && decide (t < P.types.size)) = true)
    (hW : DataW.Whole enc P f.params.toList s.vars apart W args.toList ds gs before) (hfn : ∀ gs', gs' = [] → s.fn H (ds ++ gs') = { results := [.lit (.bool true)], args := ds }) (hb : Below W.heap.size W W') :
    s.post enc P f apart fresh handsOn false W args (.bool true) W' := by
  have hread' : ∀ t ∈ f.params.toList, P.readableRec t = true ∧ t < P.types.size := fun t ht => by
    have := List.all_eq_true.1 hread t ht
    simpa using this
  have hW' := hW
  obtain ⟨p, q, hA, hV, rfl, hfz, hnd⟩ := hW
  rw [hv] at hV
  obtain ⟨rfl, rfl⟩ := trodVars_none hV
  have hlt : ∀ x ∈ p, x.block < W.heap.size := fun x hx => hW'.lt x (by simpa using hx)
  refine ⟨ds, [], p ++ [], [], p, [], hW', ?_, ?_, ?_, ?_, fun h => by cases h⟩
  · rw [hfn [] rfl, hrt]
    exact trodAll_mk1 (shut_bool hub true)
  · rw [hfn [] rfl]
    exact trodAll_below hl hb _ _ _ _ hread' hlt hA
  · rw [hv, hfn [] rfl]
    rfl
  · refine World.keptBut_mono (fun x hx => ⟨hx, .inr (.inl (by simpa using hx))⟩) (hb.frame (· ∈ p ++ []))
/-- a contract that tells true, in the world that the law is called in -/
theorem ac_law {fn : Nat} {args : List AV} {vs : List Value} {W : World} (h : AC P fn args [] (fun v bs' => v = .sc (.bool true) ∧ bs' = [])) (ha : ∀ φ κ, RC W φ κ (fun b => b < W.heap.size) args vs Ct.z) :
    Calls P fn vs.toArray W fun e W' => e = .returned (.bool true) ∧ Below W.heap.size W W' := by
  refine (h.2 W (fun _ _ => none) (fun _ _ => none) _ vs [] Ct.z Ct.z (ha _ _) .nil (fun i g hi => by simp at hi) (fun _ _ _ => rfl) (fun _ _ => rfl) (fun x => by simp [Ct.z]) (fun x hx => by simp [Ct.z] at hx) (fun x hx => ⟨hx, rfl⟩)).mono ?_
  rintro e W' ⟨v, r, bs', gs', Sr, Sb', φ', F, rfl, ⟨rfl, rfl⟩, hr, _, _, _, _, _, _, hf⟩
  cases hr with
  | sc => exact ⟨rfl, hf.os, hf.tape, hf.output, hf.size, fun b hb => hf.block b hb rfl⟩
theorem bulk_of {l : List (DataW H)} (hk : Rows.uptoSmall H l = true) : Rows.uptoBulkAll l ≤ 1048576 := of_decide_eq_true hk
end
end Go.Proofs.YtkmbmhbhpjjchaaGreat

namespace Go.Proofs.YtkmbmhbhpjjchaaGreat
set_option linter.unusedVariables false
set_option linter.unusedSimpArgs false
open Go.RowKit Go.ChangeShapes Go.WideShapes Go.ChangeAt Go.Deep
set_option maxRecDepth 100000
theorem laidOut : laidOutB Tryz.prog = true := by kernel_rfl
theorem own_knob : ownKnob Tryz.prog.godebug = none := by kernel_rfl
def I64 (x : Int) : Prop := -9223372036854775808 ≤ x ∧ x ≤ 9223372036854775807
theorem i64_of {x : Int} (h : (Lit.int .i64 x).wf = true) : I64 x := by simpa [Lit.wf, IntKind.min, IntKind.max, IntKind.signed, IntKind.bits, I64] using h
theorem u8_of {x : Int} (h : (Lit.int .u8 x).wf = true) : 0 ≤ x ∧ x ≤ 255 := by simpa [Lit.wf, IntKind.min, IntKind.max, IntKind.signed, IntKind.bits] using h
theorem oi : OA Tryz.prog 3 1 (fun _ x => I64 x) (fun x => [I x]) := (oa_int Tryz.underlying3 (by kernel_rfl)).map id (fun _ _ _ _ h => h) (fun _ _ h => i64_of h) fun _ => rfl
theorem obl : OA Tryz.prog 4 1 (fun _ (_ : Bool) => True) (fun x => [B x]) := oa_bool Tryz.underlying4 (by kernel_rfl)
theorem ou : OA Tryz.prog 5 1 (fun _ (_ : UInt8) => True) eB := (oa_int Tryz.underlying5 (by kernel_rfl)).wmap (fun x : Int => UInt8.ofNat x.toNat) (fun _ _ _ _ h => h) (fun _ _ _ => trivial) fun n x hx => by
  have h := u8_of hx
  have e : ((UInt8.ofNat x.toNat).toNat : Int) = x := by rw [UInt8.toNat_ofNat']; omega
  simp only [eB, U, e]
theorem obs : OA Tryz.prog 22 1 (fun N (l : List UInt8) => (∀ x ∈ l, True) ∧ l.length < N) (fun l => [bs none l]) := oa_slice (by decide) Tryz.underlying22 (by kernel_rfl) ou
end Go.Proofs.YtkmbmhbhpjjchaaGreat

namespace Go.Proofs.YtkmbmhbhpjjchaaGreat
set_option linter.unusedVariables false
set_option linter.unusedSimpArgs false
open Go.RowKit Go.ChangeShapes Go.WideShapes Go.ChangeAt Go.Deep
set_option maxRecDepth 100000
theorem om : OA Tryz.prog 82 3 (fun _ m => I64 m.node ∧ I64 m.since) eM :=
  (oa_struct Tryz.underlying82 (by kernel_rfl) (of_cons rfl oi (of_cons rfl oi (of_cons rfl obl of_nil)))).map (fun d => ⟨d.1, d.2.1, d.2.2.1⟩) (fun _ _ _ _ h => h) (fun _ _ h => ⟨h.1, h.2.1⟩) fun _ => rfl
theorem oms : OA Tryz.prog 24 1 (fun N (l : List Member) => (∀ m ∈ l, I64 m.node ∧ I64 m.since) ∧ l.length < N) (fun l => [ms none l]) := oa_slice (by decide) Tryz.underlying24 (by kernel_rfl) om
def okC (N : Nat) (c : Config) : Prop := I64 c.epoch ∧ (∀ m ∈ c.members, I64 m.node ∧ I64 m.since) ∧ c.members.length < N
theorem okC.up {m n : Nat} {c : Config} (h : m ≤ n) (k : okC m c) : okC n c := ⟨k.1, k.2.1, Nat.lt_of_lt_of_le k.2.2 h⟩
theorem ocf : OA Tryz.prog 26 2 okC (eC none) :=
  (oa_struct Tryz.underlying26 (by kernel_rfl) (of_cons rfl oi (of_cons rfl oms of_nil))).map (fun d => ⟨d.1, d.2.1⟩) (fun _ _ _ => okC.up) (fun _ _ h => ⟨h.1, h.2.1.1, h.2.1.2⟩) fun _ => rfl
def okE (N : Nat) (e : Entry) : Prop := I64 e.pos ∧ I64 e.stamp ∧ I64 e.client ∧ I64 e.id ∧ e.body.length < N
theorem okE.up {m n : Nat} {e : Entry} (h : m ≤ n) (k : okE m e) : okE n e := ⟨k.1, k.2.1, k.2.2.1, k.2.2.2.1, Nat.lt_of_lt_of_le k.2.2.2.2 h⟩
theorem oen : OA Tryz.prog 84 5 okE (eE none) :=
  (oa_struct Tryz.underlying84 (by kernel_rfl) (of_cons rfl oi (of_cons rfl oi (of_cons rfl oi (of_cons rfl oi (of_cons rfl obs of_nil)))))).map (fun d => ⟨d.1, d.2.1, d.2.2.1, d.2.2.2.1, d.2.2.2.2.1⟩) (fun _ _ _ => okE.up) (fun _ _ h => ⟨h.1, h.2.1, h.2.2.1, h.2.2.2.1, h.2.2.2.2.1.2⟩) fun _ => rfl
end Go.Proofs.YtkmbmhbhpjjchaaGreat
