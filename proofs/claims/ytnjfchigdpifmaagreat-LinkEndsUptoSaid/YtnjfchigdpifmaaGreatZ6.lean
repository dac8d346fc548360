/-
  Texts joined: Br, BrA, Ls1, Le5, Le8, Le6, Q9, Le7.
-/
import Derived.Test.YtnjfchigdpifmaaGreatZ1
import Derived.Test.YtnjfchigdpifmaaGreatZ2
import Derived.Test.YtnjfchigdpifmaaGreatZ3
import Derived.Test.YtnjfchigdpifmaaGreatZ4
import Derived.Test.YtnjfchigdpifmaaGreatZ5
import Derived.Test.YtnjfchigdpifmaaGreatRows
import Derived.OpenShut
import Derived.Carry
import Derived.ChangeArms
import Derived.ChangeSame
import Derived.ChangeMaps5
import Derived.JoinedCond
import Derived.Deep.Slices
import Derived.Deep.CondSized
namespace Go.Proofs.YtnjfchigdpifmaaGreat
set_option linter.unusedVariables false
set_option linter.unusedSimpArgs false
open Go.RowKit Go.ChangeShapes Go.WideShapes Go.ChangeAt Go.Deep
set_option maxRecDepth 100000
/-! bulk -/
theorem bulk_one {H : Type} (d : DataW H) : 1 ≤ Rows.uptoBulk d := by
  cases d with
  | lit l => cases l <;> simp [Rows.uptoBulk]
  | _ => simp [Rows.uptoBulk]
theorem bulk_part {H : Type} {d : DataW H} {l : List (DataW H)} (h : d ∈ l) : Rows.uptoBulk d ≤ Rows.uptoBulkAll l := by
  induction l with
  | nil => cases h
  | cons x r ih =>
    simp only [Rows.uptoBulkAll]
    cases List.mem_cons.1 h with
    | inl e => subst e; omega
    | inr e => have := ih e; omega
theorem bulk_length {H : Type} (l : List (DataW H)) : l.length ≤ Rows.uptoBulkAll l := by
  induction l with
  | nil => simp [Rows.uptoBulkAll]
  | cons x r ih => have := bulk_one x; simp only [Rows.uptoBulkAll, List.length_cons]; omega
/-- what reads as data of a type is k cells of my data; N: its bulk -/
def OA (P : Program) (t : TypeId) (k : Nat) {α : Type} (ok : Nat → α → Prop) (e : α → List AV) : Prop :=
  P.cellsOf t = k ∧ (∀ m n d, m ≤ n → ok m d → ok n d) ∧ ∀ {H : Type} {enc : TypeId × Value → H} {w : World} {base : Nat} {fuel : Nat} {cs : List Value} {x : DataW H × List MemPlace},
    DataW.trod enc P w base (fun _ => true) true fuel t cs = some x → ∃ d : α, ok (Rows.uptoBulk x.1) d ∧ (∀ φ κ, RC w φ κ (fun b => b < w.heap.size) (e d) cs Ct.z) ∧ (∀ u ∈ cs, u.oneCell' = true) ∧ (∀ a ∈ e d, a.leaf = true) ∧ cs.length = k
section
variable {P : Program} {t e : TypeId} {α β : Type} {ok : Nat → α → Prop} {k : Nat} {en : α → List AV}
theorem OA.map (h : OA P t k ok en) (f : α → β) {ok' : Nat → β → Prop} {en' : β → List AV} (hm : ∀ m n d, m ≤ n → ok' m d → ok' n d) (h1 : ∀ n a, ok n a → ok' n (f a)) (h2 : ∀ a, en' (f a) = en a) : OA P t k ok' en' :=
  ⟨h.1, hm, fun hx => by
    obtain ⟨d, a, b, c⟩ := h.2.2 hx
    exact ⟨f d, h1 _ _ a, by rw [h2]; exact b, by rw [h2]; exact c⟩⟩
theorem OA.wmap (h : OA P t k ok en) (f : α → β) {ok' : Nat → β → Prop} {en' : β → List AV} (hm : ∀ m n d, m ≤ n → ok' m d → ok' n d) (h1 : ∀ n a, ok n a → ok' n (f a)) (h2 : ∀ n a, ok n a → en' (f a) = en a) : OA P t k ok' en' :=
  ⟨h.1, hm, fun hx => by
    obtain ⟨d, a, b, c⟩ := h.2.2 hx
    exact ⟨f d, h1 _ _ a, by rw [h2 _ _ a]; exact b, by rw [h2 _ _ a]; exact c⟩⟩
theorem RC.one_ {w : World} {φ : Fi} {κ : Ka} {R : Nat → Prop} {a : AV} {v : Value} (h : RV w φ κ R a v Ct.z) : RC w φ κ R [a] [v] Ct.z := .cons (S := Ct.z) (T := Ct.z) h .nil fun _ => rfl
theorem oa_int {κ : IntKind} (ht : P.underlying t = some (.int κ)) (hc : P.cellsOf t = 1) : OA P t 1 (fun _ (n : Int) => (Lit.int κ n).wf = true) (fun n => [.sc (.int κ n)]) :=
  ⟨hc, fun _ _ _ _ h => h, fun h => by
    obtain ⟨n, rfl, _, hw⟩ := DataW.trod_int ht h
    exact ⟨n, hw, fun _ _ => RC.one_ (.sc rfl), fun u hu => by simp at hu; subst hu; rfl, fun a ha => by simp at ha; subst ha; rfl, rfl⟩⟩
theorem oa_bool (ht : P.underlying t = some .bool) (hc : P.cellsOf t = 1) : OA P t 1 (fun _ (_ : Bool) => True) (fun n => [.sc (.bool n)]) :=
  ⟨hc, fun _ _ _ _ h => h, fun h => by
    obtain ⟨n, rfl, _⟩ := DataW.trod_bool ht h
    exact ⟨n, trivial, fun _ _ => RC.one_ (.sc rfl), fun u hu => by simp at hu; subst hu; rfl, fun a ha => by simp at ha; subst ha; rfl, rfl⟩⟩
theorem RE.of_rows {w : World} {φ : Fi} {κ : Ka} {R : Nat → Prop} {k : Nat} {en : α → List AV} {l : List α} (css : Nat → List Value) (h : ∀ i x, l[i]? = some x → RC w φ κ R (en x) (css i) Ct.z ∧ (∀ u ∈ css i, u.oneCell' = true) ∧ (∀ a ∈ en x, a.leaf = true) ∧ (css i).length = k) :
    RE w φ κ R k (l.map en) ((List.range l.length).flatMap css) Ct.z := by
  induction l generalizing css with
  | nil => exact .nil
  | cons x l ih =>
    have h0 := h 0 x rfl
    have h1 := ih (fun i => css (i + 1)) fun i y hy => h (i + 1) y (by simpa using hy)
    rw [List.length_cons, List.range_succ_eq_map, List.flatMap_cons, List.flatMap_map]
    exact .cons (S := Ct.z) (T := Ct.z) h0.1 h0.2.2.2 ⟨h0.2.1, h0.2.2.1⟩ h1 fun _ => rfl
theorem flat_at {css : Nat → List Value} {k n : Nat} (h : ∀ i, i < n → (css i).length = k) : ∀ {j : Nat} {u : Value}, ((List.range n).flatMap css)[j]? = some u → ∃ i r, i < n ∧ j = i * k + r ∧ (css i)[r]? = some u := by
  induction n generalizing css with
  | zero => intro j u hj; simp at hj
  | succ n ih =>
    intro j u hj
    rw [List.range_succ_eq_map, List.flatMap_cons, List.flatMap_map] at hj
    have h0 := h 0 (by omega)
    by_cases hjk : j < k
    · rw [List.getElem?_append_left (by omega)] at hj
      exact ⟨0, j, by omega, by omega, hj⟩
    · rw [List.getElem?_append_right (by omega)] at hj
      obtain ⟨i, r, hi, hr, hu⟩ := ih (css := fun i => css (i + 1)) (fun i hi => h (i + 1) (by omega)) hj
      refine ⟨i + 1, r, by omega, ?_, hu⟩
      rw [Nat.add_mul]; omega
theorem spot_none {w : World} {a : Addr} {u : Value} (h : w.cell? (a.add 0) = some u) : a.spot = none := by
  obtain ⟨ab, ao, asp⟩ := a
  cases hsp : asp with
  | none => rfl
  | some s =>
    rw [hsp] at h
    simp [Addr.add, World.cell?] at h
    split at h <;> simp at h
theorem oa_slice (hk : 0 < k) (ht : P.underlying t = some (.slice e)) (hc : P.cellsOf t = 1) (hE : OA P e k ok en) : OA P t 1 (fun N (l : List α) => (∀ x ∈ l, ok N x) ∧ l.length < N) (fun l => [.sl none k (l.map en)]) := by
  refine ⟨hc, fun m n d h k => ⟨fun x hx => hE.2.1 _ _ _ h (k.1 x hx), Nat.lt_of_lt_of_le k.2 h⟩, ?_⟩
  intro H enc w base fuel cs x h
  rcases open_slice ht h with ⟨rfl, rfl⟩ | ⟨a, len, cap, m, n, D, Pl, rfl, hb, hl, hm, hmm, hx, hi⟩
  · exact ⟨[], ⟨fun x hx => by simp at hx, by simp [Rows.uptoBulk]⟩, fun _ _ => RC.one_ .ni, fun u hu => by simp at hu; subst hu; rfl, fun a ha => by simp at ha; subst ha; rfl, rfl⟩
  · obtain rfl : m = cap := by simpa using hmm
    clear hmm
    have hbulk : ∀ i, i < len → Rows.uptoBulk (D i) ≤ Rows.uptoBulk x.1 := by
      intro i hi
      rw [hx]
      have := bulk_part (d := D i) (l := (List.range len).map D) (List.mem_map.2 ⟨i, List.mem_range.2 hi, rfl⟩)
      simp only [Rows.uptoBulk]
      omega
    have hlenb : len < Rows.uptoBulk x.1 := by
      rw [hx]
      have := bulk_length ((List.range len).map D)
      simp only [Rows.uptoBulk]
      simp only [List.length_map, List.length_range] at this
      omega
    have hall : ∀ i, i < len → ∃ (d : α) (cs' : List Value), (ok (Rows.uptoBulk x.1) d ∧ (∀ φ κ, RC w φ κ (fun b => b < w.heap.size) (en d) cs' Ct.z) ∧ (∀ u ∈ cs', u.oneCell' = true) ∧ (∀ a ∈ en d, a.leaf = true) ∧ cs'.length = k) ∧ ∀ j u, cs'[j]? = some u → w.cell? ((a.add (i * k)).add j) = some u := by
      intro i hil
      obtain ⟨cs', hcs, htr⟩ := hi i (by omega)
      obtain ⟨d, hd0, hd⟩ := hE.2.2 htr
      rw [hE.1] at hcs
      obtain ⟨_, hlen, hat⟩ := World.cells?_some hcs
      exact ⟨d, cs', ⟨hE.2.1 _ _ _ (hbulk i hil) hd0, hd⟩, fun j u hu => (hat j (by have := (List.getElem?_eq_some_iff.1 hu).1; omega)).trans hu⟩
    have hsp0 : 0 < m → a.spot = none := by
      intro h0
      obtain ⟨cs', hcs, _⟩ := hi 0 h0
      rw [hE.1] at hcs
      obtain ⟨_, hlen, hat⟩ := World.cells?_some hcs
      have hz := hat 0 (by omega)
      rw [List.getElem?_eq_getElem (by omega)] at hz
      have e0 : a.add (0 * k) = a := by simp [Addr.add]
      rw [e0] at hz
      exact spot_none hz
    have hex : ∃ (l : List α) (css : Nat → List Value), l.length = len ∧ ∀ i y, l[i]? = some y → (ok (Rows.uptoBulk x.1) y ∧ (∀ φ κ, RC w φ κ (fun b => b < w.heap.size) (en y) (css i) Ct.z) ∧ (∀ u ∈ css i, u.oneCell' = true) ∧ (∀ a ∈ en y, a.leaf = true) ∧ (css i).length = k) ∧ ∀ j u, (css i)[j]? = some u → w.cell? ((a.add (i * k)).add j) = some u := by
      clear hi hbulk hlenb h hx
      revert hall
      clear hl
      induction len with
      | zero => exact fun _ => ⟨[], fun _ => [], rfl, fun i x h => by simp at h⟩
      | succ q ih =>
        intro hall
        obtain ⟨l, css, hl, hq⟩ := ih (fun i hi => hall i (by omega))
        obtain ⟨d, cs', hd, hcs⟩ := hall q (by omega)
        refine ⟨l ++ [d], fun i => if i = q then cs' else css i, by simp [hl], fun i x hx => ?_⟩
        by_cases hik : i < q
        · rw [List.getElem?_append_left (by omega)] at hx
          simp only [show i ≠ q by omega, if_false]
          exact hq i x hx
        · have hik' : i = q := by have := (List.getElem?_eq_some_iff.1 hx).1; simp at this; omega
          subst hik'
          rw [List.getElem?_append_right (by omega), hl] at hx
          simp at hx
          subst hx
          simp only [if_true]
          exact ⟨hd, hcs⟩
    obtain ⟨l, css, hll, hq⟩ := hex
    refine ⟨l, ⟨fun y hy => ?_, by omega⟩, fun φ κ => ?_, fun u hu => by simp at hu; subst hu; rfl, fun a ha => by simp at ha; subst ha; rfl, rfl⟩
    · obtain ⟨i, hi, rfl⟩ := List.mem_iff_getElem.1 hy
      exact (hq i _ (List.getElem?_eq_getElem hi)).1.1
    · refine RC.one_ ?_
      subst hll
      by_cases h0 : m = 0
      · subst h0
        obtain rfl : l = [] := List.eq_nil_of_length_eq_zero (by omega)
        exact .ne
      · obtain ⟨ab, ao, asp⟩ := a
        have hspn := hsp0 (by omega)
        simp only at hspn
        subst hspn
        have hflat : ∀ j u, ((List.range l.length).flatMap css)[j]? = some u → w.cell? ⟨ab, ao + j, none⟩ = some u := by
          intro j u hj
          obtain ⟨i, r, hi, rfl, hu⟩ := flat_at (k := k) (fun i hi => (hq i _ (List.getElem?_eq_getElem hi)).1.2.2.2.2) hj
          have := (hq i _ (List.getElem?_eq_getElem hi)).2 r u hu
          have e1 : (Addr.add (Addr.add ⟨ab, ao, none⟩ (i * k)) r) = ⟨ab, ao + (i * k + r), none⟩ := by
            unfold Addr.add
            split <;> split <;> simp_all [Nat.add_assoc]
          rw [e1] at this
          exact this
        have hE' : RE w φ κ (fun b => b < w.heap.size) k (l.map en) ((List.range l.length).flatMap css) Ct.z := RE.of_rows css fun i x hx => ⟨(hq i x hx).1.2.1 φ κ, (hq i x hx).1.2.2⟩
        have := RV.ro (c := m) (b := ab) (o := ao) hE' (by simp; omega) hm (fun hne => by
          have hl0 : 0 < l.length := by cases l with
            | nil => exact absurd rfl hne
            | cons _ _ => simp
          have hc0 := (hq 0 _ (List.getElem?_eq_getElem hl0)).1.2.2.2.2
          have hz := (hq 0 _ (List.getElem?_eq_getElem hl0)).2 0 _ (List.getElem?_eq_getElem (by omega))
          simp only [Addr.add, Nat.zero_mul, if_true, World.cell?] at hz
          cases hh : w.heap[ab]? with
          | none => simp [hh] at hz
          | some o => exact (Array.getElem?_eq_some_iff.1 hh).1) hflat
        simpa using this
/-- fields from an offset on -/
def OFs (P : Program) (fs : List Field) (off k : Nat) {α : Type} (ok : Nat → α → Prop) (e : α → List AV) : Prop :=
  (∀ m n d, m ≤ n → ok m d → ok n d) ∧ ∀ {H : Type} {enc : TypeId × Value → H} {w : World} {base : Nat} {cs : List Value} {N : Nat},
    (∀ f ∈ fs, ∃ n y, DataW.trod enc P w base (fun _ => true) true n f.type ((cs.drop f.offset).take (P.cellsOf f.type)) = some y ∧ Rows.uptoBulk y.1 ≤ N) → off + k ≤ cs.length →
    ∃ d : α, ok N d ∧ (∀ φ κ, RC w φ κ (fun b => b < w.heap.size) (e d) ((cs.drop off).take k) Ct.z) ∧ (∀ u ∈ (cs.drop off).take k, u.oneCell' = true) ∧ (∀ a ∈ e d, a.leaf = true)
theorem of_nil {off : Nat} : OFs P [] off 0 (fun _ (_ : Unit) => True) (fun _ => []) :=
  ⟨fun _ _ _ _ _ => trivial, fun {H enc w base cs N} _ _ => ⟨(), trivial, fun φ κ => by simp; exact .nil, fun u hu => by simp at hu, fun a ha => by cases ha⟩⟩
theorem of_cons {f : Field} {fs : List Field} {off k2 : Nat} {ok2 : Nat → β → Prop} {en2 : β → List AV} (hoff : f.offset = off) (h1 : OA P f.type k ok en) (h2 : OFs P fs (off + k) k2 ok2 en2) :
    OFs P (f :: fs) off (k + k2) (fun N (d : α × β) => ok N d.1 ∧ ok2 N d.2) (fun d => en d.1 ++ en2 d.2) :=
  ⟨fun m n d h k => ⟨h1.2.1 _ _ _ h k.1, h2.1 _ _ _ h k.2⟩, fun {H enc w base cs N} hf hl => by
    subst hoff
    obtain ⟨n, y, hy, hyb⟩ := hf f (by simp)
    rw [h1.1] at hy
    obtain ⟨a, a1, a2, a3, a4, a5⟩ := h1.2.2 hy
    obtain ⟨b, b1, b2, b3, b4⟩ := h2.2 (cs := cs) (N := N) (fun g hg => hf g (by simp [hg])) (by omega)
    have e0 : (cs.drop f.offset).take (k + k2) = (cs.drop f.offset).take k ++ (cs.drop (f.offset + k)).take k2 := by
      rw [List.take_add, List.drop_drop]
    refine ⟨(a, b), ⟨h1.2.1 _ _ _ hyb a1, b1⟩, fun φ κ => ?_, fun u hu => ?_, fun x hx => ?_⟩
    · rw [e0]; exact (a2 φ κ).append (b2 φ κ) fun _ => rfl
    · rw [e0] at hu; exact (List.mem_append.1 hu).elim (a3 u) (b3 u)
    · exact (List.mem_append.1 hx).elim (a4 x) (b4 x)⟩
theorem oa_struct {fs : Array Field} (ht : P.underlying t = some (.struct fs)) (hc : P.cellsOf t = k) (h : OFs P fs.toList 0 k ok en) : OA P t k ok en :=
  ⟨hc, h.1, fun {H enc w base fuel cs x} hx => by
    obtain ⟨xs, n, _, hxx, hl, hn, hg⟩ := DataW.trod_struct ht hx
    obtain ⟨d, d1, d2, d3, d4⟩ := h.2 (cs := cs) (N := Rows.uptoBulk x.1) (fun f hf => by
      obtain ⟨i, hi, rfl⟩ := List.mem_iff_getElem.1 hf
      have hi' : i < fs.size := by simpa using hi
      have := hg i (fs.toList[i]) (by simp [hi'])
      rw [List.getElem?_eq_getElem (by omega)] at this
      refine ⟨n, _, this, ?_⟩
      have hb := bulk_part (d := (xs[i]'(by omega)).1) (l := xs.map (·.1)) (List.mem_map.2 ⟨_, List.getElem_mem _, rfl⟩)
      rw [hxx]
      simp only [Rows.uptoBulk]
      omega) (by omega)
    rw [hc] at hl
    have e0 : (cs.drop 0).take k = cs := by rw [List.drop_zero]; exact List.take_of_length_le (by omega)
    rw [e0] at d2 d3
    exact ⟨d, d1, d2, d3, d4, hl⟩⟩
/-! arguments -/
variable {H : Type} {enc : TypeId × Value → H} {w : World} {base b0 : Nat} {r : Reach} {v : Value} {d : DataW H} {p : List MemPlace}
theorem arg_1 {f : α → AV} (hE : OA P t 1 ok (fun x => [f x])) (hv : v.cells.toList = [v]) (h : DataW.Trod enc P w base (fun _ => true) true t v d p) :
    ∃ x, ok (Rows.uptoBulk d) x ∧ ∀ φ κ, RV w φ κ (fun b => b < w.heap.size) (f x) v Ct.z := by
  obtain ⟨fuel, hf⟩ := h
  obtain ⟨x, x1, x2, x3, _⟩ := hE.2.2 hf
  refine ⟨x, x1, fun φ κ => ?_⟩
  have h1 := x2 φ κ
  rw [hv] at h1
  cases h1 with
  | cons a b c => obtain ⟨rfl, rfl⟩ := Ct.split c; exact a
theorem cells_slice (ht : P.underlying t = some (.slice e)) (hv : Value.okWide P w r b0 t v) : v.cells.toList = [v] := by
  unfold Value.okWide at hv
  rw [ht] at hv
  cases v with
  | agg cs => simp only [Cell.okWide, ht] at hv; simp [Cell.ok, ht] at hv
  | tuple cs => simp only [Cell.okWide, ht] at hv; simp [Cell.ok, ht] at hv
  | _ => rfl
theorem cells_int {κ : IntKind} (ht : P.underlying t = some (.int κ)) (hv : Value.okWide P w r b0 t v) : v.cells.toList = [v] := by
  unfold Value.okWide at hv
  rw [ht] at hv
  cases v with
  | agg cs => simp only [Cell.okWide, ht] at hv; simp [Cell.ok, ht] at hv
  | tuple cs => simp only [Cell.okWide, ht] at hv; simp [Cell.ok, ht] at hv
  | _ => rfl
/-! what was there reads as it did -/
theorem trodAll_below (hl : laidOutB P = true) {W W' : World} (hb : Below W.heap.size W W') :
    ∀ (ts : List TypeId) (vs : List Value) (ds : List (DataW H)) (ps : List MemPlace), (∀ t ∈ ts, P.readableRec t = true ∧ t < P.types.size) → (∀ x ∈ ps, x.block < W.heap.size) →
      DataW.TrodAll enc P W 0 (fun _ => true) true ts vs ds ps → DataW.TrodAll enc P W' 0 (fun b => decide (b < W.heap.size)) true ts vs ds ps
  | [], [], [], ps, _, _, h => h
  | t :: ts, v :: vs, d :: ds, ps, hr, hlt, h => by
    obtain ⟨p, q, hd, hs, rfl⟩ := h
    have hrt := hr t (by simp)
    exact ⟨p, q, Below.trod hl hrt.1 hrt.2 hd hb fun x hx => hlt x (by simp [hx]), trodAll_below hl hb ts vs ds q (fun t ht => hr t (by simp [ht])) (fun x hx => hlt x (by simp [hx])) hs, rfl⟩
  | [], _ :: _, _, _, _, _, h => by simp [DataW.TrodAll] at h
  | [], [], _ :: _, _, _, _, h => by simp [DataW.TrodAll] at h
  | _ :: _, [], _, _, _, _, h => by simp [DataW.TrodAll] at h
  | _ :: _, _ :: _, [], _, _, _, h => by simp [DataW.TrodAll] at h
/-- THE LAST STEP: the law returns true and leaves alone what was there -/
theorem law_post {f : Func} {s : ChangeSpec} {apart fresh handsOn : Bool} {W W' : World} {args : Array Value} {ds gs : List (DataW H)} {before : List MemPlace} {tb : TypeId}
    (hl : laidOutB P = true) (hv : s.vars = []) (hrt : f.resultTypes = #[tb]) (hub : P.underlying tb = some .bool) (hread : (f.params.toList.all fun t => P.readableRec t && decide (t < P.types.size)) = true)
    (hW : DataW.Whole enc P f.params.toList s.vars apart W args.toList ds gs before) (hfn : ∀ gs', gs' = [] → s.fn H (ds ++ gs') = { results := [.lit (.bool true)], args := ds }) (hb : Below W.heap.size W W') :
    s.post enc P f apart fresh handsOn false W args (.bool true) W' := by
  have hread' : ∀ t ∈ f.params.toList, P.readableRec t = true ∧ t < P.types.size := fun t ht => by
    have := List.all_eq_true.1 hread t ht
    simpa using this
  have hW' := hW
  obtain ⟨p, q, hA, hV, rfl, hfz, hnd⟩ := hW
  rw [hv] at hV
  obtain ⟨rfl, rfl⟩ := trodVars_none hV
  have hlt : ∀ x ∈ p, x.block < W.heap.size := fun x hx => hW'.lt x (by simpa using hx)
  refine ⟨ds, [], p ++ [], [], p, [], hW', ?_, ?_, ?_, ?_, fun h => by cases h⟩
  · rw [hfn [] rfl, hrt]
    exact trodAll_mk1 (shut_bool hub true)
  · rw [hfn [] rfl]
    exact trodAll_below hl hb _ _ _ _ hread' hlt hA
  · rw [hv, hfn [] rfl]
    rfl
  · refine World.keptBut_mono (fun x hx => ⟨hx, .inr (.inl (by simpa using hx))⟩) (hb.frame (· ∈ p ++ []))
/-- a contract that tells true, in the world that the law is called in -/
theorem ac_law {fn : Nat} {args : List AV} {vs : List Value} {W : World} (h : AC P fn args [] (fun v bs' => v = .sc (.bool true) ∧ bs' = [])) (ha : ∀ φ κ, RC W φ κ (fun b => b < W.heap.size) args vs Ct.z) :
    Calls P fn vs.toArray W fun e W' => e = .returned (.bool true) ∧ Below W.heap.size W W' := by
  refine (h.2 W (fun _ _ => none) (fun _ _ => none) _ vs [] Ct.z Ct.z (ha _ _) .nil (fun i g hi => by simp at hi) (fun _ _ _ => rfl) (fun _ _ => rfl) (fun x => by simp [Ct.z]) (fun x hx => by simp [Ct.z] at hx) (fun x hx => ⟨hx, rfl⟩)).mono ?_
  rintro e W' ⟨v, r, bs', gs', Sr, Sb', φ', F, rfl, ⟨rfl, rfl⟩, hr, _, _, _, _, _, _, hf⟩
  cases hr with
  | sc => exact ⟨rfl, hf.os, hf.tape, hf.output, hf.size, fun b hb => hf.block b hb rfl⟩
theorem bulk_of {l : List (DataW H)} (hk : Rows.uptoSmall H l = true) : Rows.uptoBulkAll l ≤ 1048576 := of_decide_eq_true hk
end
end Go.Proofs.YtnjfchigdpifmaaGreat

namespace Go.Proofs.YtnjfchigdpifmaaGreat
set_option linter.unusedVariables false
set_option linter.unusedSimpArgs false
open Go.RowKit Go.ChangeShapes Go.WideShapes Go.ChangeAt Go.Deep
set_option maxRecDepth 100000
theorem laidOut : laidOutB Tryz.prog = true := by kernel_rfl
theorem own_knob : ownKnob Tryz.prog.godebug = none := by kernel_rfl
def I64 (x : Int) : Prop := -9223372036854775808 ≤ x ∧ x ≤ 9223372036854775807
theorem i64_of {x : Int} (h : (Lit.int .i64 x).wf = true) : I64 x := by simpa [Lit.wf, IntKind.min, IntKind.max, IntKind.signed, IntKind.bits, I64] using h
theorem u8_of {x : Int} (h : (Lit.int .u8 x).wf = true) : 0 ≤ x ∧ x ≤ 255 := by simpa [Lit.wf, IntKind.min, IntKind.max, IntKind.signed, IntKind.bits] using h
theorem oi : OA Tryz.prog 3 1 (fun _ x => I64 x) (fun x => [I x]) := (oa_int Tryz.underlying3 (by kernel_rfl)).map id (fun _ _ _ _ h => h) (fun _ _ h => i64_of h) fun _ => rfl
theorem obl : OA Tryz.prog 4 1 (fun _ (_ : Bool) => True) (fun x => [B x]) := oa_bool Tryz.underlying4 (by kernel_rfl)
theorem ou : OA Tryz.prog 5 1 (fun _ (_ : UInt8) => True) eB := (oa_int Tryz.underlying5 (by kernel_rfl)).wmap (fun x : Int => UInt8.ofNat x.toNat) (fun _ _ _ _ h => h) (fun _ _ _ => trivial) fun n x hx => by
  have h := u8_of hx
  have e : ((UInt8.ofNat x.toNat).toNat : Int) = x := by rw [UInt8.toNat_ofNat']; omega
  simp only [eB, U, e]
theorem obs : OA Tryz.prog 22 1 (fun N (l : List UInt8) => (∀ x ∈ l, True) ∧ l.length < N) (fun l => [bs none l]) := oa_slice (by decide) Tryz.underlying22 (by kernel_rfl) ou
end Go.Proofs.YtnjfchigdpifmaaGreat

namespace Go.Proofs.YtnjfchigdpifmaaGreat
set_option linter.unusedVariables false
set_option linter.unusedSimpArgs false
set_option maxHeartbeats 8000000
open Go.RowKit Go.ChangeShapes Go.WideShapes Go.ChangeAt Go.Deep
set_option maxRecDepth 100000
theorem sameP_ac (p : Pkt) (hb : p.body.length ≤ 1000000000) : AC Tryz.prog 12 [.ag (eP p), .ag (eP p)] [] (fun v bs' => v = B true ∧ bs' = []) := by
  have h := same_ac p.body p.body hb
  rw [decide_eq_true rfl] at h
  refine AC.N Tryz.func12 Tryz.ntmps12 ?_
  intro X hρ hmks
  simp only [nx, Nat.reduceAdd, Nat.reduceSub, BEq.rfl]
  repeat' (first | ((first | ((with_reducible apply AP.k_any); first | refine AP.S ?_ | (refine AP.Y ?_; dsimp only) | refine AP.G (fun hg => ?_) (fun hg => ?_) | refine AP.A ?_ | refine AP.AB 0 ?_ | refine AP.AB 1 ?_ | refine AP.AL ?_ | refine AP.EQ ?_)) <;> (try simp only [nx, Nat.reduceAdd, Nat.reduceSub, BEq.rfl])) | ((with_reducible apply AP.k_nil); first | (refine AP.nil (hQ' _ ?_); clear hQ' Q') | refine AP.nil ?_) | ((with_reducible apply CP.k_reg); refine cp_regG fun Q' hQ' => ?_) | refine CP.W ?_ | refine cp_cond rfl (fun hc => ?_) (fun hc => ?_) | (simp only [List.append_eq, List.cons_append, List.nil_append]))
  all_goals try (refine RetQ.B [] ?_; (try dsimp only [resV, List.getD_cons_succ, List.getD_cons_zero]); ((refine ⟨congrArg B ?_, rfl⟩; first | rfl | (simp [eqVs, eqV1]; done))))
  all_goals (exfalso; (repeat (rename AC _ _ _ _ _ => hzz; clear hzz)); simp [eqVs, eqV1] at *; done)
abbrev tagVs (t : List UInt8) : List Value := [.int .u8 ((t.getD 0 0).toNat : Int), .int .u8 ((t.getD 1 0).toNat : Int), .int .u8 ((t.getD 2 0).toNat : Int), .int .u8 ((t.getD 3 0).toNat : Int), .int .u8 ((t.getD 4 0).toNat : Int), .int .u8 ((t.getD 5 0).toNat : Int), .int .u8 ((t.getD 6 0).toNat : Int), .int .u8 ((t.getD 7 0).toNat : Int), .int .u8 ((t.getD 8 0).toNat : Int), .int .u8 ((t.getD 9 0).toNat : Int), .int .u8 ((t.getD 10 0).toNat : Int), .int .u8 ((t.getD 11 0).toNat : Int), .int .u8 ((t.getD 12 0).toNat : Int), .int .u8 ((t.getD 13 0).toNat : Int), .int .u8 ((t.getD 14 0).toNat : Int), .int .u8 ((t.getD 15 0).toNat : Int), .int .u8 ((t.getD 16 0).toNat : Int), .int .u8 ((t.getD 17 0).toNat : Int), .int .u8 ((t.getD 18 0).toNat : Int), .int .u8 ((t.getD 19 0).toNat : Int), .int .u8 ((t.getD 20 0).toNat : Int), .int .u8 ((t.getD 21 0).toNat : Int), .int .u8 ((t.getD 22 0).toNat : Int), .int .u8 ((t.getD 23 0).toNat : Int), .int .u8 ((t.getD 24 0).toNat : Int), .int .u8 ((t.getD 25 0).toNat : Int), .int .u8 ((t.getD 26 0).toNat : Int), .int .u8 ((t.getD 27 0).toNat : Int), .int .u8 ((t.getD 28 0).toNat : Int), .int .u8 ((t.getD 29 0).toNat : Int), .int .u8 ((t.getD 30 0).toNat : Int), .int .u8 ((t.getD 31 0).toNat : Int)]
theorem tagVs_map {t : List UInt8} (h : t.length = 32) : tagVs t = t.map fun c => Value.int .u8 (c.toNat : Int) := by
  have : tagVs t = (List.range 32).map fun j => Value.int .u8 ((t.getD j 0).toNat : Int) := rfl
  rw [this]
  apply List.ext_getElem?
  intro i
  by_cases hi : i < 32
  · simp [hi, h, List.getD_eq_getElem?_getD]
  · rw [List.getElem?_eq_none (by simp; omega), List.getElem?_eq_none (by simp; omega)]
theorem eqVs_map : ∀ {a b : List UInt8}, a.length = b.length → eqVs (a.map fun c => Value.int .u8 (c.toNat : Int)) (b.map fun c => Value.int .u8 (c.toNat : Int)) = decide (a = b)
  | [], [], _ => by simp [eqVs]
  | x :: a, y :: b, h => by
    have ih := eqVs_map (a := a) (b := b) (by simpa using h)
    have hx : ((x.toNat : Int) == (y.toNat : Int)) = decide (x = y) := by
      rw [Bool.eq_iff_iff]
      simp only [beq_iff_eq, decide_eq_true_iff, Int.ofNat_inj, UInt8.toNat_inj]
    simp only [List.map_cons, eqVs, ih, eqV1, List.cons.injEq, Bool.decide_and, hx]
theorem eqT {a b : List UInt8} (ha : a.length = 32) (hb : b.length = 32) : eqVs (tagVs a) (tagVs b) = decide (a = b) := by
  rw [tagVs_map ha, tagVs_map hb, eqVs_map (by omega)]
end Go.Proofs.YtnjfchigdpifmaaGreat

namespace Go.Proofs.YtnjfchigdpifmaaGreat
set_option linter.unusedVariables false
set_option linter.unusedSimpArgs false
set_option maxHeartbeats 8000000
open Go.RowKit
set_option maxRecDepth 100000
theorem dget_bad (y : De) (b : List UInt8) (hb : b.length ≤ 10000000) (h : parseP b = (pk0, 190)) : AC Tryz.prog 11 [.bp 0 0 0, bs none b] [deX y] (fun v bs' => v = .tu [.ag (eP (y.get b).1.1), I (y.get b).1.2] ∧ bs' = [deX (y.get b).2]) := by
  have e : y.get b = ((pk0, 190), y) := by
    unfold De.get
    rw [h, if_pos (.inl (by decide))]
  rw [e]
  have h2 := dparseP_ac b hb
  rw [h] at h2
  dsimp only at h2 ⊢
  rw [pk0_eP, eP_z] at h2 ⊢
  refine AC.N Tryz.func11 Tryz.ntmps11 ?_
  intro X hρ hmks
  simp only [nx, Nat.reduceAdd, Nat.reduceSub, BEq.rfl]
  repeat' (first | ((first | ((with_reducible apply AP.k_any); first | refine AP.ST ?_ | (refine AP.Y ?_; dsimp only) | refine AP.G (fun hg => ?_) (fun hg => ?_) | (refine AP.V (fun c hnil => ?_); simp only [nz])  | refine AP.PF ?_) | ((with_reducible apply DW.k_any); first | refine DW.ST ?_ | ((fail_if_success refine DW.known rfl ?_); refine DW.G (fun hg => ?_) (fun hg => ?_))) | ((with_reducible apply DW.k_any); first | refine DW.R ?_ | refine DW.R' ?_ | refine DW.W ?_ | refine DW.W' ?_ | (refine DW.known rfl ?_; (with_reducible first | apply DW.sx 2 | apply DW.sxN 2); (iterate 2 (focus (simp only [ft, nm, Nat.reduceAdd, Nat.reduceBEq, List.getElem?_cons_zero, List.getElem?_cons_succ]; exact rfl))); (focus (intro X V; simp only [ft, nm, Nat.reduceAdd, Nat.reduceBEq]; (try (refine AP.Y ?_; dsimp only)); (first  | fail); (try simp only [nx, Nat.reduceAdd, Nat.reduceSub, BEq.rfl]); refine AP.nil ?_; (first | refine ⟨trivial, rfl, ?_⟩ | refine ⟨rfl, rfl, ?_⟩); (repeat' (first | exact Mg.nil | apply Mg.keep rfl | apply Mg.take rfl)); done)); (focus (refine Exists.intro (fun _ => 0) ?_; apply Exists.intro; (repeat' (first | exact Mg.nil | apply Mg.keep rfl | apply Mg.take rfl)); done)); (iterate 2 (focus (exact rfl)))) | ((fail_if_success refine DW.known rfl ?_); refine DW.G (fun hg => ?_) (fun hg => ?_)))) <;> (try simp only [ nx, mx, rn, fq, Nat.mul_one, Bool.and_true, Bool.and_false, Nat.reduceBEq, Nat.reduceAdd, Nat.reduceSub, BEq.rfl])) | ((with_reducible apply AP.k_nil); first | (refine AP.nil (hQ' _ ?_); clear hQ' Q') | refine AP.nil ?_) | ((with_reducible apply CP.k_drw); refine cp_drwX fun Q' hQ' => ?_) | ((with_reducible apply CP.k_drw1); refine cp_drawX ?_) | ((with_reducible apply DW.k_nil); refine DW.nl ?_; first | (refine hQ' _ ?_; clear hQ' Q') | skip) | ((with_reducible apply CP.k_reg); refine cp_regG fun Q' hQ' => ?_) | refine CP.W ?_ | refine cp_cond rfl (fun hc => ?_) (fun hc => ?_) | (simp only [List.append_eq, List.cons_append, List.nil_append]))
  (exact RetQ.A [(0, 0)] (by exact ⟨rfl, rfl⟩))
theorem dget_far (y : De) (b : List UInt8) (hb : b.length ≤ 10000000) (h : (parseP b).2 = 0) (h3 : (parseP b).1.to ≠ y.who) : AC Tryz.prog 11 [.bp 0 0 0, bs none b] [deX y] (fun v bs' => v = .tu [.ag (eP (y.get b).1.1), I (y.get b).1.2] ∧ bs' = [deX (y.get b).2]) := by
  have e : y.get b = ((pk0, 190), y) := by
    unfold De.get
    rw [if_pos (.inr h3)]
  rw [e]
  have h2 := dparseP_ac b hb
  rw [h] at h2
  generalize (parseP b).1 = p at *
  dsimp only at h2 ⊢
  rw [pk0_eP, eP_z]
  have d1 : (p.to != y.who) = true := by simpa using h3
  clear e
  refine AC.N Tryz.func11 Tryz.ntmps11 ?_
  intro X hρ hmks
  simp only [nx, Nat.reduceAdd, Nat.reduceSub, BEq.rfl]
  repeat' (first | ((first | ((with_reducible apply AP.k_any); first | refine AP.ST ?_ | (refine AP.Y ?_; dsimp only) | refine AP.G (fun hg => ?_) (fun hg => ?_) | (refine AP.V (fun c hnil => ?_); simp only [nz])  | refine AP.PF ?_) | ((with_reducible apply DW.k_any); first | refine DW.ST ?_ | ((fail_if_success refine DW.known rfl ?_); refine DW.G (fun hg => ?_) (fun hg => ?_))) | ((with_reducible apply DW.k_any); first | refine DW.R ?_ | refine DW.R' ?_ | refine DW.W ?_ | refine DW.W' ?_ | (refine DW.known rfl ?_; (with_reducible first | apply DW.sx 2 | apply DW.sxN 2); (iterate 2 (focus (simp only [ft, nm, Nat.reduceAdd, Nat.reduceBEq, List.getElem?_cons_zero, List.getElem?_cons_succ]; exact rfl))); (focus (intro X V; simp only [ft, nm, Nat.reduceAdd, Nat.reduceBEq]; (try (refine AP.Y ?_; dsimp only)); (first  | fail); (try simp only [nx, Nat.reduceAdd, Nat.reduceSub, BEq.rfl]); refine AP.nil ?_; (first | refine ⟨trivial, rfl, ?_⟩ | refine ⟨rfl, rfl, ?_⟩); (repeat' (first | exact Mg.nil | apply Mg.keep rfl | apply Mg.take rfl)); done)); (focus (refine Exists.intro (fun _ => 0) ?_; apply Exists.intro; (repeat' (first | exact Mg.nil | apply Mg.keep rfl | apply Mg.take rfl)); done)); (iterate 2 (focus (exact rfl)))) | ((fail_if_success refine DW.known rfl ?_); refine DW.G (fun hg => ?_) (fun hg => ?_)))) <;> (try simp only [d1, nx, mx, rn, fq, Nat.mul_one, Bool.and_true, Bool.and_false, Nat.reduceBEq, Nat.reduceAdd, Nat.reduceSub, BEq.rfl])) | ((with_reducible apply AP.k_nil); first | (refine AP.nil (hQ' _ ?_); clear hQ' Q') | refine AP.nil ?_) | ((with_reducible apply CP.k_drw); refine cp_drwX fun Q' hQ' => ?_) | ((with_reducible apply CP.k_drw1); refine cp_drawX ?_) | ((with_reducible apply DW.k_nil); refine DW.nl ?_; first | (refine hQ' _ ?_; clear hQ' Q') | skip) | ((with_reducible apply CP.k_reg); refine cp_regG fun Q' hQ' => ?_) | refine CP.W ?_ | refine cp_cond rfl (fun hc => ?_) (fun hc => ?_) | (simp only [List.append_eq, List.cons_append, List.nil_append]))
  (exact RetQ.A [(0, 0)] (by exact ⟨rfl, rfl⟩))
theorem dget_tag (y : De) (b : List UInt8) (hb : b.length ≤ 60000) (hr : y.root.length ≤ 10000) (h : (parseP b).2 = 0) (h3 : (parseP b).1.to = y.who) (h4 : (parseP b).1.tag ≠ tagS y.root (parseP b).1) : AC Tryz.prog 11 [.bp 0 0 0, bs none b] [deX y] (fun v bs' => v = .tu [.ag (eP (y.get b).1.1), I (y.get b).1.2] ∧ bs' = [deX (y.get b).2]) := by
  have e : y.get b = ((pk0, 91), y) := by
    unfold De.get
    rw [if_neg (by rw [h, h3]; simp), if_pos h4]
  rw [e]
  have h2 := dparseP_ac b (by omega)
  have hbl := parseP_body b hb
  have htl := parseP_tag b
  rw [h] at h2
  generalize (parseP b).1 = p at *
  have h5 := dtagP_ac y.root p hr hbl
  have hT := tagS_len y.root p
  have he := eqT htl hT
  rw [decide_eq_false h4] at he
  generalize tagS y.root p = T at *
  dsimp only at h2 ⊢
  rw [pk0_eP, eP_z]
  have d1 : (p.to != y.who) = false := by simpa using h3
  clear h4 e
  refine AC.N Tryz.func11 Tryz.ntmps11 ?_
  intro X hρ hmks
  simp only [nx, Nat.reduceAdd, Nat.reduceSub, BEq.rfl]
  repeat' (first | ((first | ((with_reducible apply AP.k_any); first | refine AP.ST ?_ | (refine AP.Y ?_; dsimp only) | refine AP.G (fun hg => ?_) (fun hg => ?_) | (refine AP.V (fun c hnil => ?_); simp only [nz]) | refine AP.EQ ?_ | refine AP.PF ?_) | ((with_reducible apply DW.k_any); first | refine DW.ST ?_ | ((fail_if_success refine DW.known rfl ?_); refine DW.G (fun hg => ?_) (fun hg => ?_))) | ((with_reducible apply DW.k_any); first | refine DW.R ?_ | refine DW.R' ?_ | refine DW.W ?_ | refine DW.W' ?_ | (refine DW.known rfl ?_; (with_reducible first | apply DW.sx 2 | apply DW.sxN 2); (iterate 2 (focus (simp only [ft, nm, Nat.reduceAdd, Nat.reduceBEq, List.getElem?_cons_zero, List.getElem?_cons_succ]; exact rfl))); (focus (intro X V; simp only [ft, nm, Nat.reduceAdd, Nat.reduceBEq]; (try (refine AP.Y ?_; dsimp only)); (first | refine AP.EQ ?_ | fail); (try simp only [nx, Nat.reduceAdd, Nat.reduceSub, BEq.rfl]); refine AP.nil ?_; (first | refine ⟨trivial, rfl, ?_⟩ | refine ⟨rfl, rfl, ?_⟩); (repeat' (first | exact Mg.nil | apply Mg.keep rfl | apply Mg.take rfl)); done)); (focus (refine Exists.intro (fun _ => 0) ?_; apply Exists.intro; (repeat' (first | exact Mg.nil | apply Mg.keep rfl | apply Mg.take rfl)); done)); (iterate 2 (focus (exact rfl)))) | ((fail_if_success refine DW.known rfl ?_); refine DW.G (fun hg => ?_) (fun hg => ?_)))) <;> (try simp only [d1, he, nx, mx, rn, fq, Nat.mul_one, Bool.and_true, Bool.and_false, Nat.reduceBEq, Nat.reduceAdd, Nat.reduceSub, BEq.rfl])) | ((with_reducible apply AP.k_nil); first | (refine AP.nil (hQ' _ ?_); clear hQ' Q') | refine AP.nil ?_) | ((with_reducible apply CP.k_drw); refine cp_drwX fun Q' hQ' => ?_) | ((with_reducible apply CP.k_drw1); refine cp_drawX ?_) | ((with_reducible apply DW.k_nil); refine DW.nl ?_; first | (refine hQ' _ ?_; clear hQ' Q') | skip) | ((with_reducible apply CP.k_reg); refine cp_regG fun Q' hQ' => ?_) | refine CP.W ?_ | refine cp_cond rfl (fun hc => ?_) (fun hc => ?_) | (simp only [List.append_eq, List.cons_append, List.nil_append]))
  (exact RetQ.A [(0, 0)] (by exact ⟨rfl, rfl⟩))
end Go.Proofs.YtnjfchigdpifmaaGreat

namespace Go.Proofs.YtnjfchigdpifmaaGreat
set_option linter.unusedVariables false
set_option linter.unusedSimpArgs false
set_option maxHeartbeats 8000000
open Go.RowKit
set_option maxRecDepth 100000
theorem dtake_two (w : Dw) (boot n : Int) (h0 : 0 ≤ boot) (h1 : 1 ≤ n) : (w.take boot n).1 = 0 ∨ (w.take boot n).1 = 180 := by
  unfold Dw.take
  rw [if_neg (by omega)]
  split
  · exact .inr rfl
  split
  · exact .inr rfl
  split
  · exact .inr rfl
  · exact .inl rfl
theorem dget_go (y : De) (b : List UInt8) (hb : b.length ≤ 60000) (hr : y.root.length ≤ 10000) (hl : y.l.length ≤ 1000) (h : (parseP b).2 = 0) (h3 : (parseP b).1.to = y.who) (h4 : (parseP b).1.tag = tagS y.root (parseP b).1) (hm : mayP (parseP b).1 = true)
    (hc : (y.at ((parseP b).1.frm, (parseP b).1.epoch)).2.came.length ≤ 1000) (ht : dtop (y.at ((parseP b).1.frm, (parseP b).1.epoch)).2.came ≤ 9223372036854775807) : AC Tryz.prog 11 [.bp 0 0 0, bs none b] [deX y] (fun v bs' => v = .tu [.ag (eP (y.get b).1.1), I (y.get b).1.2] ∧ bs' = [deX (y.get b).2]) := by
  have e : y.get b = (let p := (parseP b).1
    let t := (y.at (p.frm, p.epoch)).2.take p.boot p.seqn
    let y' : De := y.put (p.frm, p.epoch) ((y.at (p.frm, p.epoch)).1, t.2)
    if t.1 ≠ 0 then ((pk0, t.1), y') else ((p, 0), y')) := by
    unfold De.get
    rw [if_neg (by rw [h, h3]; simp), if_neg (by rw [← h4]; simp)]
  rw [e]
  clear e
  have h2 := dparseP_ac b (by omega)
  have hbl := parseP_body b hb
  have htl := parseP_tag b
  rw [h] at h2
  generalize (parseP b).1 = p at *
  have h5 := dtagP_ac y.root p hr hbl
  have he := eqT htl (tagS_len y.root p)
  rw [decide_eq_true h4] at he
  obtain ⟨_, hbo, hs⟩ := mayP_of hm
  have h1 := dside_ac y p.frm p.epoch hl
  have h7 := dtake_ac (y.at (p.frm, p.epoch)).2 p.boot p.seqn hc ht
  have h8 := dtake_two (y.at (p.frm, p.epoch)).2 p.boot p.seqn hbo hs
  obtain ⟨hl2, hl3⟩ := puts_len (y := y) (p.frm, p.epoch) (y.at (p.frm, p.epoch))
  have hro : ((puts (p.frm, p.epoch) y.l (y.at (p.frm, p.epoch))).map sdC)[idx (p.frm, p.epoch) y]? = some [I p.frm, I p.epoch, I (y.at (p.frm, p.epoch)).1, .ob tDw (dwC (y.at (p.frm, p.epoch)).2)] := by
    rw [List.getElem?_map, puts_idx]; rfl
  have hset : ∀ w : Dw, ((puts (p.frm, p.epoch) y.l (y.at (p.frm, p.epoch))).map sdC).set (idx (p.frm, p.epoch) y) [I p.frm, I p.epoch, I (y.at (p.frm, p.epoch)).1, .ob tDw (dwC w)] = (puts (p.frm, p.epoch) y.l ((y.at (p.frm, p.epoch)).1, w)).map sdC := fun w => by
    have := congrArg (List.map sdC) (puts_set (y := y) (p.frm, p.epoch) (y.at (p.frm, p.epoch)) ((y.at (p.frm, p.epoch)).1, w))
    rw [List.map_set] at this
    exact this
  have d1 : (p.to != y.who) = false := by simpa using h3
  dsimp only
  unfold De.put at h1 ⊢
  generalize tagS y.root p = T at *
  have hset1 := hset ((y.at (p.frm, p.epoch)).2.take p.boot p.seqn).2
  clear hset hm h3 h4 h hc ht
  generalize hL2 : puts (p.frm, p.epoch) y.l ((y.at (p.frm, p.epoch)).1, ((y.at (p.frm, p.epoch)).2.take p.boot p.seqn).2) = L2 at *
  clear hL2
  generalize y.at (p.frm, p.epoch) = v at *
  generalize puts (p.frm, p.epoch) y.l v = L at *
  generalize idx (p.frm, p.epoch) y = i at *
  generalize v.2.take p.boot p.seqn = t at *
  obtain ⟨t1, w1⟩ := t
  dsimp only at h7 h8 hset1 ⊢
  rcases h8 with rfl | rfl
  · rw [if_neg (by decide)]
    dsimp only
    refine AC.N Tryz.func11 Tryz.ntmps11 ?_
    intro X hρ hmks
    simp only [nx, Nat.reduceAdd, Nat.reduceSub, BEq.rfl]
    refine CP.gh gh_slot ?_; simp only [nx, Nat.reduceAdd, Nat.reduceSub, BEq.rfl]
    refine CP.gh gh_slot ?_; simp only [nx, Nat.reduceAdd, Nat.reduceSub, BEq.rfl]
    refine CP.gh gh_slot ?_; simp only [nx, Nat.reduceAdd, Nat.reduceSub, BEq.rfl]
    refine CP.gh gh_slot ?_; simp only [nx, Nat.reduceAdd, Nat.reduceSub, BEq.rfl]
    repeat' (first | ((first | ((with_reducible apply AP.k_any); first | refine AP.ST ?_ | (refine AP.Y ?_; dsimp only) | refine AP.G (fun hg => ?_) (fun hg => ?_) | (refine AP.V (fun c hnil => ?_); simp only [nz]) | refine AP.EQ ?_ | ((with_reducible apply AP.k_any); refine AP.B 0 (h1) ?_) | refine AP.PF ?_)) <;> (try simp only [d1, he, List.length_map, nx, mx, rn, fq, Nat.mul_one, Bool.and_true, Bool.and_false, Nat.reduceBEq, Nat.reduceAdd, Nat.reduceSub, BEq.rfl])) | ((with_reducible apply AP.k_nil); first | (refine AP.nil (hQ' _ ?_); clear hQ' Q') | refine AP.nil ?_) | ((with_reducible apply CP.k_reg); refine cp_regG fun Q' hQ' => ?_) | refine CP.W ?_ | refine cp_cond rfl (fun hc => ?_) (fun hc => ?_) | (simp only [List.append_eq, List.cons_append, List.nil_append]))
    first | refine cp_drwX fun Q' hQ' => ?_ | refine cp_drawX ?_
    repeat' (first | ((first | ((with_reducible apply AP.k_any); first | refine AP.ST ?_ | (refine AP.Y ?_; dsimp only) | refine AP.G (fun hg => ?_) (fun hg => ?_) | (refine AP.V (fun c hnil => ?_); simp only [nz]) | refine AP.EQ ?_ | ((with_reducible apply AP.k_any); refine AP.B 0 (h1) ?_) | refine AP.PF ?_) | ((with_reducible apply DW.k_any); first | refine DW.ST ?_ | ((fail_if_success refine DW.known rfl ?_); refine DW.G (fun hg => ?_) (fun hg => ?_))) | ((with_reducible apply DW.k_any); first | refine DW.R ?_ | refine DW.R' ?_ | refine DW.W ?_ | refine DW.W' ?_ | (refine DW.known rfl ?_; (with_reducible first | apply DW.sx 2 | apply DW.sxN 2); (iterate 2 (focus (simp only [ft, nm, Nat.reduceAdd, Nat.reduceBEq, List.getElem?_cons_zero, List.getElem?_cons_succ]; exact rfl))); (focus (intro X V; simp only [ft, nm, Nat.reduceAdd, Nat.reduceBEq]; (try (refine AP.Y ?_; dsimp only)); (first | refine AP.EQ ?_ | ((with_reducible apply AP.k_any); refine AP.B 0 (h1) ?_) | fail); (try simp only [nx, Nat.reduceAdd, Nat.reduceSub, BEq.rfl]); refine AP.nil ?_; (first | refine ⟨trivial, rfl, ?_⟩ | refine ⟨rfl, rfl, ?_⟩); (repeat' (first | exact Mg.nil | apply Mg.keep rfl | apply Mg.take rfl)); done)); (focus (refine Exists.intro (fun _ => 0) ?_; apply Exists.intro; (repeat' (first | exact Mg.nil | apply Mg.keep rfl | apply Mg.take rfl)); done)); (iterate 2 (focus (exact rfl)))) | ((fail_if_success refine DW.known rfl ?_); refine DW.G (fun hg => ?_) (fun hg => ?_)))) <;> (try simp only [d1, he, List.length_map, nx, mx, rn, fq, Nat.mul_one, Bool.and_true, Bool.and_false, Nat.reduceBEq, Nat.reduceAdd, Nat.reduceSub, BEq.rfl])) | ((with_reducible apply AP.k_nil); first | (refine AP.nil (hQ' _ ?_); clear hQ' Q') | refine AP.nil ?_) | ((with_reducible apply DW.k_nil); refine DW.nl ?_; first | (refine hQ' _ ?_; clear hQ' Q') | skip) | ((with_reducible apply CP.k_reg); refine cp_regG fun Q' hQ' => ?_) | refine CP.W ?_ | refine cp_cond rfl (fun hc => ?_) (fun hc => ?_) | (simp only [List.append_eq, List.cons_append, List.nil_append]))
    first | refine cp_drwX fun Q' hQ' => ?_ | refine cp_drawX ?_
    repeat' (first | ((first | ((with_reducible apply AP.k_any); first | refine AP.ST ?_ | (refine AP.Y ?_; dsimp only) | refine AP.G (fun hg => ?_) (fun hg => ?_) | (refine AP.V (fun c hnil => ?_); simp only [nz]) | refine AP.EQ ?_ | ((with_reducible apply AP.k_any); refine AP.B 0 (h1) ?_) | refine AP.PF ?_) | ((with_reducible apply DW.k_any); first | refine DW.ST ?_ | ((fail_if_success refine DW.known rfl ?_); refine DW.G (fun hg => ?_) (fun hg => ?_))) | ((with_reducible apply DW.k_any); first | refine DW.R ?_ | refine DW.R' ?_ | refine DW.W ?_ | refine DW.W' ?_ | (refine DW.known rfl ?_; (with_reducible first | apply DW.sx 2 | apply DW.sxN 2); (iterate 2 (focus (simp only [ft, nm, Nat.reduceAdd, Nat.reduceBEq, List.getElem?_cons_zero, List.getElem?_cons_succ]; exact rfl))); (focus (intro X V; simp only [ft, nm, Nat.reduceAdd, Nat.reduceBEq]; (try (refine AP.Y ?_; dsimp only)); (first | refine AP.EQ ?_ | ((with_reducible apply AP.k_any); refine AP.B 0 (h1) ?_) | fail); (try simp only [nx, Nat.reduceAdd, Nat.reduceSub, BEq.rfl]); refine AP.nil ?_; (first | refine ⟨trivial, rfl, ?_⟩ | refine ⟨rfl, rfl, ?_⟩); (repeat' (first | exact Mg.nil | apply Mg.keep rfl | apply Mg.take rfl)); done)); (focus (refine Exists.intro (fun _ => 0) ?_; apply Exists.intro; (repeat' (first | exact Mg.nil | apply Mg.keep rfl | apply Mg.take rfl)); done)); (iterate 2 (focus (exact rfl)))) | ((fail_if_success refine DW.known rfl ?_); refine DW.G (fun hg => ?_) (fun hg => ?_)))) <;> (try simp only [d1, he, List.length_map, nx, mx, rn, fq, Nat.mul_one, Bool.and_true, Bool.and_false, Nat.reduceBEq, Nat.reduceAdd, Nat.reduceSub, BEq.rfl])) | ((with_reducible apply AP.k_nil); first | (refine AP.nil (hQ' _ ?_); clear hQ' Q') | refine AP.nil ?_) | ((with_reducible apply DW.k_nil); refine DW.nl ?_; first | (refine hQ' _ ?_; clear hQ' Q') | skip) | ((with_reducible apply CP.k_reg); refine cp_regG fun Q' hQ' => ?_) | refine CP.W ?_ | refine cp_cond rfl (fun hc => ?_) (fun hc => ?_) | (simp only [List.append_eq, List.cons_append, List.nil_append]))
    refine CP.gh (gh_open (j := 1) (n := i) rfl hro rfl rfl) ?_
    simp only [opnC, opnA, nx, Nat.reduceAdd, Nat.reduceSub, BEq.rfl]
    repeat' (first | ((first | ((with_reducible apply AP.k_any); first | refine AP.ST ?_ | (refine AP.Y ?_; dsimp only) | refine AP.G (fun hg => ?_) (fun hg => ?_) | (refine AP.V (fun c hnil => ?_); simp only [nz]) | ((with_reducible apply AP.k_any); refine AP.B 0 (h7) ?_) | refine AP.PF ?_) | ((with_reducible apply DW.k_any); first | refine DW.ST ?_ | ((fail_if_success refine DW.known rfl ?_); refine DW.G (fun hg => ?_) (fun hg => ?_))) | ((with_reducible apply DW.k_any); first | refine DW.R ?_ | refine DW.R' ?_ | refine DW.W ?_ | refine DW.W' ?_ | (refine DW.known rfl ?_; (with_reducible first | apply DW.sx 2 | apply DW.sxN 2); (iterate 2 (focus (simp only [ft, nm, Nat.reduceAdd, Nat.reduceBEq, List.getElem?_cons_zero, List.getElem?_cons_succ]; exact rfl))); (focus (intro X V; simp only [ft, nm, Nat.reduceAdd, Nat.reduceBEq]; (try (refine AP.Y ?_; dsimp only)); (first | ((with_reducible apply AP.k_any); refine AP.B 0 (h7) ?_) | fail); (try simp only [nx, Nat.reduceAdd, Nat.reduceSub, BEq.rfl]); refine AP.nil ?_; (first | refine ⟨trivial, rfl, ?_⟩ | refine ⟨rfl, rfl, ?_⟩); (repeat' (first | exact Mg.nil | apply Mg.keep rfl | apply Mg.take rfl)); done)); (focus (refine Exists.intro (fun _ => 0) ?_; apply Exists.intro; (repeat' (first | exact Mg.nil | apply Mg.keep rfl | apply Mg.take rfl)); done)); (iterate 2 (focus (exact rfl)))) | ((fail_if_success refine DW.known rfl ?_); refine DW.G (fun hg => ?_) (fun hg => ?_)))) <;> (try simp only [d1, List.length_map, nx, mx, rn, fq, Nat.mul_one, Bool.and_true, Bool.and_false, Nat.reduceBEq, Nat.reduceAdd, Nat.reduceSub, BEq.rfl])) | ((with_reducible apply AP.k_nil); first | (refine AP.nil (hQ' _ ?_); clear hQ' Q') | refine AP.nil ?_) | ((with_reducible apply CP.k_drw); refine cp_drwX fun Q' hQ' => ?_) | ((with_reducible apply CP.k_drw1); refine cp_drawX ?_) | ((with_reducible apply DW.k_nil); refine DW.nl ?_; first | (refine hQ' _ ?_; clear hQ' Q') | skip) | ((with_reducible apply CP.k_reg); refine cp_regG fun Q' hQ' => ?_) | refine CP.W ?_ | refine cp_cond rfl (fun hc => ?_) (fun hc => ?_) | (simp only [List.append_eq, List.cons_append, List.nil_append]))
    (exact RetQ.A [(0, 0)] (by exact ⟨rfl, congrArg (fun r => [Bx.c tDe [bs none y.root, I y.who, I y.boot, .sl (some tDs) 4 r]]) hset1⟩))
  · rw [if_pos (by decide)]
    dsimp only
    rw [pk0_eP, eP_z]
    refine AC.N Tryz.func11 Tryz.ntmps11 ?_
    intro X hρ hmks
    simp only [nx, Nat.reduceAdd, Nat.reduceSub, BEq.rfl]
    refine CP.gh gh_slot ?_; simp only [nx, Nat.reduceAdd, Nat.reduceSub, BEq.rfl]
    refine CP.gh gh_slot ?_; simp only [nx, Nat.reduceAdd, Nat.reduceSub, BEq.rfl]
    refine CP.gh gh_slot ?_; simp only [nx, Nat.reduceAdd, Nat.reduceSub, BEq.rfl]
    refine CP.gh gh_slot ?_; simp only [nx, Nat.reduceAdd, Nat.reduceSub, BEq.rfl]
    repeat' (first | ((first | ((with_reducible apply AP.k_any); first | refine AP.ST ?_ | (refine AP.Y ?_; dsimp only) | refine AP.G (fun hg => ?_) (fun hg => ?_) | (refine AP.V (fun c hnil => ?_); simp only [nz]) | refine AP.EQ ?_ | ((with_reducible apply AP.k_any); refine AP.B 0 (h1) ?_) | refine AP.PF ?_)) <;> (try simp only [d1, he, List.length_map, nx, mx, rn, fq, Nat.mul_one, Bool.and_true, Bool.and_false, Nat.reduceBEq, Nat.reduceAdd, Nat.reduceSub, BEq.rfl])) | ((with_reducible apply AP.k_nil); first | (refine AP.nil (hQ' _ ?_); clear hQ' Q') | refine AP.nil ?_) | ((with_reducible apply CP.k_reg); refine cp_regG fun Q' hQ' => ?_) | refine CP.W ?_ | refine cp_cond rfl (fun hc => ?_) (fun hc => ?_) | (simp only [List.append_eq, List.cons_append, List.nil_append]))
    first | refine cp_drwX fun Q' hQ' => ?_ | refine cp_drawX ?_
    repeat' (first | ((first | ((with_reducible apply AP.k_any); first | refine AP.ST ?_ | (refine AP.Y ?_; dsimp only) | refine AP.G (fun hg => ?_) (fun hg => ?_) | (refine AP.V (fun c hnil => ?_); simp only [nz]) | refine AP.EQ ?_ | ((with_reducible apply AP.k_any); refine AP.B 0 (h1) ?_) | refine AP.PF ?_) | ((with_reducible apply DW.k_any); first | refine DW.ST ?_ | ((fail_if_success refine DW.known rfl ?_); refine DW.G (fun hg => ?_) (fun hg => ?_))) | ((with_reducible apply DW.k_any); first | refine DW.R ?_ | refine DW.R' ?_ | refine DW.W ?_ | refine DW.W' ?_ | (refine DW.known rfl ?_; (with_reducible first | apply DW.sx 2 | apply DW.sxN 2); (iterate 2 (focus (simp only [ft, nm, Nat.reduceAdd, Nat.reduceBEq, List.getElem?_cons_zero, List.getElem?_cons_succ]; exact rfl))); (focus (intro X V; simp only [ft, nm, Nat.reduceAdd, Nat.reduceBEq]; (try (refine AP.Y ?_; dsimp only)); (first | refine AP.EQ ?_ | ((with_reducible apply AP.k_any); refine AP.B 0 (h1) ?_) | fail); (try simp only [nx, Nat.reduceAdd, Nat.reduceSub, BEq.rfl]); refine AP.nil ?_; (first | refine ⟨trivial, rfl, ?_⟩ | refine ⟨rfl, rfl, ?_⟩); (repeat' (first | exact Mg.nil | apply Mg.keep rfl | apply Mg.take rfl)); done)); (focus (refine Exists.intro (fun _ => 0) ?_; apply Exists.intro; (repeat' (first | exact Mg.nil | apply Mg.keep rfl | apply Mg.take rfl)); done)); (iterate 2 (focus (exact rfl)))) | ((fail_if_success refine DW.known rfl ?_); refine DW.G (fun hg => ?_) (fun hg => ?_)))) <;> (try simp only [d1, he, List.length_map, nx, mx, rn, fq, Nat.mul_one, Bool.and_true, Bool.and_false, Nat.reduceBEq, Nat.reduceAdd, Nat.reduceSub, BEq.rfl])) | ((with_reducible apply AP.k_nil); first | (refine AP.nil (hQ' _ ?_); clear hQ' Q') | refine AP.nil ?_) | ((with_reducible apply DW.k_nil); refine DW.nl ?_; first | (refine hQ' _ ?_; clear hQ' Q') | skip) | ((with_reducible apply CP.k_reg); refine cp_regG fun Q' hQ' => ?_) | refine CP.W ?_ | refine cp_cond rfl (fun hc => ?_) (fun hc => ?_) | (simp only [List.append_eq, List.cons_append, List.nil_append]))
    first | refine cp_drwX fun Q' hQ' => ?_ | refine cp_drawX ?_
    repeat' (first | ((first | ((with_reducible apply AP.k_any); first | refine AP.ST ?_ | (refine AP.Y ?_; dsimp only) | refine AP.G (fun hg => ?_) (fun hg => ?_) | (refine AP.V (fun c hnil => ?_); simp only [nz]) | refine AP.EQ ?_ | ((with_reducible apply AP.k_any); refine AP.B 0 (h1) ?_) | refine AP.PF ?_) | ((with_reducible apply DW.k_any); first | refine DW.ST ?_ | ((fail_if_success refine DW.known rfl ?_); refine DW.G (fun hg => ?_) (fun hg => ?_))) | ((with_reducible apply DW.k_any); first | refine DW.R ?_ | refine DW.R' ?_ | refine DW.W ?_ | refine DW.W' ?_ | (refine DW.known rfl ?_; (with_reducible first | apply DW.sx 2 | apply DW.sxN 2); (iterate 2 (focus (simp only [ft, nm, Nat.reduceAdd, Nat.reduceBEq, List.getElem?_cons_zero, List.getElem?_cons_succ]; exact rfl))); (focus (intro X V; simp only [ft, nm, Nat.reduceAdd, Nat.reduceBEq]; (try (refine AP.Y ?_; dsimp only)); (first | refine AP.EQ ?_ | ((with_reducible apply AP.k_any); refine AP.B 0 (h1) ?_) | fail); (try simp only [nx, Nat.reduceAdd, Nat.reduceSub, BEq.rfl]); refine AP.nil ?_; (first | refine ⟨trivial, rfl, ?_⟩ | refine ⟨rfl, rfl, ?_⟩); (repeat' (first | exact Mg.nil | apply Mg.keep rfl | apply Mg.take rfl)); done)); (focus (refine Exists.intro (fun _ => 0) ?_; apply Exists.intro; (repeat' (first | exact Mg.nil | apply Mg.keep rfl | apply Mg.take rfl)); done)); (iterate 2 (focus (exact rfl)))) | ((fail_if_success refine DW.known rfl ?_); refine DW.G (fun hg => ?_) (fun hg => ?_)))) <;> (try simp only [d1, he, List.length_map, nx, mx, rn, fq, Nat.mul_one, Bool.and_true, Bool.and_false, Nat.reduceBEq, Nat.reduceAdd, Nat.reduceSub, BEq.rfl])) | ((with_reducible apply AP.k_nil); first | (refine AP.nil (hQ' _ ?_); clear hQ' Q') | refine AP.nil ?_) | ((with_reducible apply DW.k_nil); refine DW.nl ?_; first | (refine hQ' _ ?_; clear hQ' Q') | skip) | ((with_reducible apply CP.k_reg); refine cp_regG fun Q' hQ' => ?_) | refine CP.W ?_ | refine cp_cond rfl (fun hc => ?_) (fun hc => ?_) | (simp only [List.append_eq, List.cons_append, List.nil_append]))
    refine CP.gh (gh_open (j := 1) (n := i) rfl hro rfl rfl) ?_
    simp only [opnC, opnA, nx, Nat.reduceAdd, Nat.reduceSub, BEq.rfl]
    repeat' (first | ((first | ((with_reducible apply AP.k_any); first | refine AP.ST ?_ | (refine AP.Y ?_; dsimp only) | refine AP.G (fun hg => ?_) (fun hg => ?_) | (refine AP.V (fun c hnil => ?_); simp only [nz]) | ((with_reducible apply AP.k_any); refine AP.B 0 (h7) ?_) | refine AP.PF ?_) | ((with_reducible apply DW.k_any); first | refine DW.ST ?_ | ((fail_if_success refine DW.known rfl ?_); refine DW.G (fun hg => ?_) (fun hg => ?_))) | ((with_reducible apply DW.k_any); first | refine DW.R ?_ | refine DW.R' ?_ | refine DW.W ?_ | refine DW.W' ?_ | (refine DW.known rfl ?_; (with_reducible first | apply DW.sx 2 | apply DW.sxN 2); (iterate 2 (focus (simp only [ft, nm, Nat.reduceAdd, Nat.reduceBEq, List.getElem?_cons_zero, List.getElem?_cons_succ]; exact rfl))); (focus (intro X V; simp only [ft, nm, Nat.reduceAdd, Nat.reduceBEq]; (try (refine AP.Y ?_; dsimp only)); (first | ((with_reducible apply AP.k_any); refine AP.B 0 (h7) ?_) | fail); (try simp only [nx, Nat.reduceAdd, Nat.reduceSub, BEq.rfl]); refine AP.nil ?_; (first | refine ⟨trivial, rfl, ?_⟩ | refine ⟨rfl, rfl, ?_⟩); (repeat' (first | exact Mg.nil | apply Mg.keep rfl | apply Mg.take rfl)); done)); (focus (refine Exists.intro (fun _ => 0) ?_; apply Exists.intro; (repeat' (first | exact Mg.nil | apply Mg.keep rfl | apply Mg.take rfl)); done)); (iterate 2 (focus (exact rfl)))) | ((fail_if_success refine DW.known rfl ?_); refine DW.G (fun hg => ?_) (fun hg => ?_)))) <;> (try simp only [d1, List.length_map, nx, mx, rn, fq, Nat.mul_one, Bool.and_true, Bool.and_false, Nat.reduceBEq, Nat.reduceAdd, Nat.reduceSub, BEq.rfl])) | ((with_reducible apply AP.k_nil); first | (refine AP.nil (hQ' _ ?_); clear hQ' Q') | refine AP.nil ?_) | ((with_reducible apply CP.k_drw); refine cp_drwX fun Q' hQ' => ?_) | ((with_reducible apply CP.k_drw1); refine cp_drawX ?_) | ((with_reducible apply DW.k_nil); refine DW.nl ?_; first | (refine hQ' _ ?_; clear hQ' Q') | skip) | ((with_reducible apply CP.k_reg); refine cp_regG fun Q' hQ' => ?_) | refine CP.W ?_ | refine cp_cond rfl (fun hc => ?_) (fun hc => ?_) | (simp only [List.append_eq, List.cons_append, List.nil_append]))
    (exact RetQ.A [(0, 0)] (by exact ⟨rfl, congrArg (fun r => [Bx.c tDe [bs none y.root, I y.who, I y.boot, .sl (some tDs) 4 r]]) hset1⟩))
theorem dget_ac (y : De) (b : List UInt8) (hb : b.length ≤ 60000) (hr : y.root.length ≤ 10000) (hl : y.l.length ≤ 1000) (hc : ∀ s, (y.at s).2.came.length ≤ 1000 ∧ dtop (y.at s).2.came ≤ 9223372036854775807) : AC Tryz.prog 11 [.bp 0 0 0, bs none b] [deX y] (fun v bs' => v = .tu [.ag (eP (y.get b).1.1), I (y.get b).1.2] ∧ bs' = [deX (y.get b).2]) := by
  rcases parse_two b with h | ⟨h, hm⟩
  · exact dget_bad y b (by omega) h
  · by_cases h3 : (parseP b).1.to = y.who
    · by_cases h4 : (parseP b).1.tag = tagS y.root (parseP b).1
      · exact dget_go y b hb hr hl h h3 h4 hm (hc _).1 (hc _).2
      · exact dget_tag y b hb hr h h3 h4
    · exact dget_far y b (by omega) h h3
end Go.Proofs.YtnjfchigdpifmaaGreat

namespace Go.Proofs.YtnjfchigdpifmaaGreat
set_option linter.unusedVariables false
set_option linter.unusedSimpArgs false
theorem take_ok {w : Wn} {b n : Int} (h : w.ok) (hn : n ≤ 9223372036854775807) : (w.take b n).2.ok := by
  unfold Wn.take
  split
  · exact h
  rename_i h1
  split
  · show (w.after b n).ok
    unfold Wn.after
    split
    · exact h
    split
    · exact h
    have hb : (w.base b).ok := by
      unfold Wn.base
      split
      · exact ⟨Int.le_refl _, (by decide : (0 : Int) ≤ 9223372036854775807)⟩
      · exact h
    generalize w.base b = x at *
    have hf : (x.far n).ok := by
      unfold Wn.far
      split
      · exact ⟨by dsimp only; omega, hn⟩
      · exact hb
    unfold Wn.go
    generalize x.far n = y at *
    show 0 ≤ (y.ups _).top ∧ (y.ups _).top ≤ _
    rw [Wn.ups_top]
    unfold Wn.ok at hf
    omega
  · exact h
theorem puts_mem {α : Type} {s : Sd} {v : α} {q : Sd × α} : ∀ {l : List (Sd × α)}, q ∈ puts s l v → q ∈ l ∨ q = (s, v)
  | [], h => by
    have : q ∈ [(s, v)] := h
    exact .inr (List.mem_singleton.1 this)
  | p :: l, h => by
    rw [puts_cons] at h
    split at h
    · rcases List.mem_cons.1 h with h | h
      · exact .inr h
      · exact .inl (List.mem_cons_of_mem _ h)
    · rcases List.mem_cons.1 h with h | h
      · exact .inl (h ▸ List.mem_cons_self ..)
      · rcases puts_mem h with h | h
        · exact .inl (List.mem_cons_of_mem _ h)
        · exact .inr h
theorem puts_length {α : Type} (s : Sd) (v : α) : ∀ l : List (Sd × α), (puts s l v).length ≤ l.length + 1
  | [] => Nat.le_refl _
  | p :: l => by
    rw [puts_cons]
    split
    · simp
    · have := puts_length s v l
      simp; omega
structure Iv (root : List UInt8) (who boot : Int) (x : Ends) (y : De) (i : Nat) : Prop where
  re : Alk x y
  xr : x.root = root
  xw : x.who = who
  xb : x.boot = boot
  ok : ∀ q ∈ x.wins, q.2.ok
  sent : ∀ s, 0 ≤ (y.at s).1 ∧ (y.at s).1 ≤ i
  len : y.l.length ≤ i
  came : ∀ s, (y.at s).2.came.length ≤ i ∧ dtop (y.at s).2.came ≤ 9223372036854775807
theorem Iv.new (root : List UInt8) (who boot : Int) : Iv root who boot ⟨root, who, boot, [], []⟩ ⟨root, who, boot, []⟩ 0 :=
  ⟨Alk.new _ _ _, rfl, rfl, rfl, fun q h => (by cases h), fun s => ⟨Int.le_refl _, Int.le_refl _⟩, Nat.le_refl _, fun s => ⟨Nat.le_refl _, (by decide : (0 : Int) ≤ 9223372036854775807)⟩⟩
theorem De.put_at (y : De) (s t : Sd) (v : Int × Dw) : (y.put s v).at t = if t = s then v else y.at t := got_puts _ _ _ _ _
theorem De.put_len (y : De) (s : Sd) (v : Int × Dw) : (y.put s v).l.length ≤ y.l.length + 1 := puts_length _ _ _
theorem Iv.up {root : List UInt8} {who boot : Int} {x : Ends} {y : De} {i : Nat} (h : Iv root who boot x y i) {x' : Ends} (s : Sd) (v : Int × Dw) (hre : Alk x' (y.put s v)) (hr : x'.root = x.root) (hw : x'.who = x.who) (hb : x'.boot = x.boot) (hok : ∀ q ∈ x'.wins, q.2.ok)
    (h1 : 0 ≤ v.1 ∧ v.1 ≤ (i : Int) + 1) (h2 : v.2.came.length ≤ i + 1 ∧ dtop v.2.came ≤ 9223372036854775807) : Iv root who boot x' (y.put s v) (i + 1) := by
  refine ⟨hre, by rw [hr, h.xr], by rw [hw, h.xw], by rw [hb, h.xb], hok, fun t => ?_, ?_, fun t => ?_⟩
  · rw [De.put_at]
    split
    · exact ⟨h1.1, by omega⟩
    · have := h.sent t; exact ⟨this.1, by omega⟩
  · have := De.put_len y s v
    have := h.len
    omega
  · rw [De.put_at]
    split
    · exact h2
    · have := h.came t; exact ⟨by omega, this.2⟩
theorem Iv.stay {root : List UInt8} {who boot : Int} {x : Ends} {y : De} {i : Nat} (h : Iv root who boot x y i) : Iv root who boot x y (i + 1) :=
  ⟨h.re, h.xr, h.xw, h.xb, h.ok, fun t => by have := h.sent t; exact ⟨this.1, by omega⟩, by have := h.len; omega, fun t => by have := h.came t; exact ⟨by omega, this.2⟩⟩
theorem Iv.send {root : List UInt8} {who boot : Int} {x : Ends} {y : De} {i : Nat} (h : Iv root who boot x y i) (to epoch : Int) (body : List UInt8) : Iv root who boot (x.send to epoch body).2 (y.send to epoch body).2 (i + 1) := by
  have hre := (h.re.send to epoch body).2
  have hs := h.sent (to, epoch)
  have hc := h.came (to, epoch)
  have hx : (x.send to epoch body).2.root = x.root ∧ (x.send to epoch body).2.who = x.who ∧ (x.send to epoch body).2.boot = x.boot ∧ (x.send to epoch body).2.wins = x.wins := by
    unfold Ends.send
    split
    · exact ⟨rfl, rfl, rfl, rfl⟩
    · exact ⟨rfl, rfl, rfl, rfl⟩
  obtain ⟨h1, h2, h3, h4⟩ := hx
  have hy : (y.send to epoch body).2 = y.put (to, epoch) ((y.at (to, epoch)).1 + 1, (y.at (to, epoch)).2) ∨ (y.send to epoch body).2 = y.put (to, epoch) (y.at (to, epoch)) := by
    unfold De.send
    split
    · exact .inl rfl
    · exact .inr rfl
  generalize (x.send to epoch body).2 = x' at *
  rcases hy with hy | hy
  · rw [hy] at hre ⊢
    exact h.up _ _ hre h1 h2 h3 (by rw [h4]; exact h.ok) ⟨by dsimp only; omega, by dsimp only; omega⟩ ⟨by dsimp only; omega, hc.2⟩
  · rw [hy] at hre ⊢
    exact h.up _ _ hre h1 h2 h3 (by rw [h4]; exact h.ok) ⟨by omega, by omega⟩ ⟨by omega, hc.2⟩
theorem dtake_bd {w : Dw} {b n : Int} {i : Nat} (h : w.came.length ≤ i ∧ dtop w.came ≤ 9223372036854775807) (hn : n ≤ 9223372036854775807) : (w.take b n).2.came.length ≤ i + 1 ∧ dtop (w.take b n).2.came ≤ 9223372036854775807 := by
  have hb : (w.base b).came.length ≤ i ∧ dtop (w.base b).came ≤ 9223372036854775807 := by
    unfold Dw.base
    split
    · exact ⟨Nat.zero_le _, (by decide : (0 : Int) ≤ 9223372036854775807)⟩
    · exact h
  unfold Dw.take
  split
  · exact ⟨by dsimp only; omega, h.2⟩
  split
  · exact ⟨by dsimp only; omega, h.2⟩
  split
  · exact ⟨by dsimp only; omega, hb.2⟩
  split
  · exact ⟨by dsimp only; omega, hb.2⟩
  · refine ⟨by simp; omega, ?_⟩
    dsimp only
    rw [dtop_snoc]
    split
    · exact hn
    · exact hb.2
theorem Iv.get {root : List UInt8} {who boot : Int} {x : Ends} {y : De} {i : Nat} (h : Iv root who boot x y i) (b : List UInt8) : Iv root who boot (x.get b).2 (y.get b).2 (i + 1) := by
  have hre := (h.re.get b).2
  have hsq := parseP_seqn b
  have hw := h.re.who
  have hrt := h.re.root
  unfold Ends.get at hre ⊢
  unfold De.get at hre ⊢
  rw [hw, hrt] at hre ⊢
  split
  · exact h.stay
  rename_i c1
  rw [if_neg c1, if_neg c1] at hre
  split
  · exact h.stay
  rename_i c2
  rw [if_neg c2, if_neg c2] at hre
  dsimp only at hre ⊢
  generalize (parseP b).1 = p at *
  have hre' : Alk { x with wins := puts (p.frm, p.epoch) x.wins ((got (p.frm, p.epoch) x.wins Wn.new).take p.boot p.seqn).2 } (y.put (p.frm, p.epoch) ((y.at (p.frm, p.epoch)).1, ((y.at (p.frm, p.epoch)).2.take p.boot p.seqn).2)) := by
    have e1 : (got (p.frm, p.epoch) x.wins Wn.new).take p.boot p.seqn = (got (p.frm, p.epoch) x.wins Wn.new).take p.boot p.seqn := rfl
    have h3 := ((h.re.wins (p.frm, p.epoch)).take p.boot p.seqn).1
    rw [h3] at hre
    by_cases hz : ((y.at (p.frm, p.epoch)).2.take p.boot p.seqn).1 ≠ 0
    · rw [if_pos hz, if_pos hz] at hre
      rw [← hrt, ← hw] at hre
      exact hre
    · rw [if_neg hz, if_neg hz] at hre
      rw [← hrt, ← hw] at hre
      exact hre
  have hok : ∀ q ∈ puts (p.frm, p.epoch) x.wins ((got (p.frm, p.epoch) x.wins Wn.new).take p.boot p.seqn).2, q.2.ok := fun q hq => by
    rcases puts_mem hq with hq | rfl
    · exact h.ok q hq
    · refine take_ok ?_ hsq
      unfold got
      split
      · split
        · rename_i hx; exact h.ok _ (List.mem_of_getElem? hx)
        · exact ⟨Int.le_refl _, by decide⟩
      · exact ⟨Int.le_refl _, by decide⟩
  have hs := h.sent (p.frm, p.epoch)
  have hfin := h.up (p.frm, p.epoch) ((y.at (p.frm, p.epoch)).1, ((y.at (p.frm, p.epoch)).2.take p.boot p.seqn).2) hre' rfl rfl rfl hok ⟨hs.1, by dsimp only; omega⟩ (dtake_bd (h.came _) hsq)
  rw [← hrt, ← hw]
  split <;> split <;> exact hfin
end Go.Proofs.YtnjfchigdpifmaaGreat

namespace Go.Proofs.YtnjfchigdpifmaaGreat
set_option linter.unusedVariables false
set_option linter.unusedSimpArgs false
set_option maxHeartbeats 8000000
open Go.RowKit
set_option maxRecDepth 100000
theorem get_old (x : Ends) (b : List UInt8) (hb : b.length ≤ 60000) (hr : x.root.length ≤ 10000) (hwo : ∀ q ∈ x.wins, q.2.ok) (h : (parseP b).2 = 0) (h3 : (parseP b).1.to = x.who) (h4 : (parseP b).1.tag = tagS x.root (parseP b).1) (hm : mayP (parseP b).1 = true)
    {n : Nat} (ha : at_ ((parseP b).1.frm, (parseP b).1.epoch) x.wins = some n) : AC Tryz.prog 10 [.bp 0 0 0, bs none b] [xE x] (fun v bs' => v = .tu [.ag (eP (x.get b).1.1), I (x.get b).1.2] ∧ bs' = [xE (x.get b).2]) := by
  rw [get_go x b h h3 h4]
  have h1 := lnone_ac x
  have h2 := parseP_ac b (by omega)
  have hbl := parseP_body b hb
  have htl := parseP_tag b
  have hsq := parseP_seqn b
  rw [h] at h2
  generalize (parseP b).1 = p at *
  have h5 := right_ac x.root p hr hbl htl
  rw [decide_eq_true h4] at h5
  obtain ⟨he, hbo, hs⟩ := mayP_of hm
  obtain ⟨w, hv⟩ := at_some ha
  have hg : got (p.frm, p.epoch) x.wins Wn.new = w := by unfold got; rw [ha]; dsimp only; rw [hv]
  have hp : ∀ w1, puts (p.frm, p.epoch) x.wins w1 = x.wins.set n ((p.frm, p.epoch), w1) := fun w1 => by unfold puts; rw [ha]
  dsimp only
  rw [hg]
  have h7 := take18_ac w p.boot p.seqn hsq (hwo _ (List.mem_of_getElem? hv))
  have hk := kinS x.wins
  have hf := fnd_at_ (p.frm, p.epoch) x.wins
  rw [ha] at hf
  have e1 : ∀ w1, xE { x with wins := puts (p.frm, p.epoch) x.wins w1 } = .c tEn [B true, bs none x.root, I x.who, I x.boot, .mo (keyN x.sent) (rowN x.sent), .mo (keyW x.wins) ((rowW x.wins).set n [.ob tWn (wC w1)])] := fun w1 => by
    rw [hp]
    have e2 := puts_keys ha w1
    have e3 : (x.wins.set n ((p.frm, p.epoch), w1)).map (fun p : Sd × Wn => [AV.ob tWn (wC p.2)]) = (rowW x.wins).set n [.ob tWn (wC w1)] := by rw [List.map_set]
    dsimp only [xE, enE, keyW, rowW]
    rw [e2, e3]
  have hc : (rowW x.wins)[n]? = some [.ob tWn (wC w)] := by rw [List.getElem?_map, hv]; rfl
  have d1 : (p.to != x.who) = false := by simpa using h3
  clear h4 hp
  rcases take_two w p.boot p.seqn hbo hs with ht | ht
  · rw [ht] at h7 ⊢
    dsimp only at h7 ⊢
    generalize w.after p.boot p.seqn = w1 at *
    rw [if_neg (by decide)]
    dsimp only
    rw [e1]
    clear e1
    refine AC.N Tryz.func10 Tryz.ntmps10 ?_
    intro X hρ hmks
    simp only [nx, Nat.reduceAdd, Nat.reduceSub, BEq.rfl]
    refine CP.gh gh_slot ?_; simp only [nx, Nat.reduceAdd, Nat.reduceSub, BEq.rfl]
    refine CP.gh gh_slot ?_; simp only [nx, Nat.reduceAdd, Nat.reduceSub, BEq.rfl]
    refine CP.gh gh_slot ?_; simp only [nx, Nat.reduceAdd, Nat.reduceSub, BEq.rfl]
    refine CP.gh gh_slot ?_; simp only [nx, Nat.reduceAdd, Nat.reduceSub, BEq.rfl]
    repeat' (first | ((first | ((with_reducible apply AP.k_any); first | refine AP.ST ?_ | (refine AP.Y ?_; dsimp only) | refine AP.G (fun hg => ?_) (fun hg => ?_) | (refine AP.V (fun c hnil => ?_); simp only [nz])  | refine AP.PF ?_)) <;> (try simp only [d1, nx, mx, rn, fq, Nat.mul_one, Bool.and_true, Bool.and_false, Nat.reduceBEq, Nat.reduceAdd, Nat.reduceSub, BEq.rfl])) | ((with_reducible apply AP.k_nil); first | (refine AP.nil (hQ' _ ?_); clear hQ' Q') | refine AP.nil ?_) | ((with_reducible apply CP.k_reg); refine cp_regG fun Q' hQ' => ?_) | refine CP.W ?_ | refine cp_cond rfl (fun hc => ?_) (fun hc => ?_) | (simp only [List.append_eq, List.cons_append, List.nil_append]))
    first | refine cp_drwX fun Q' hQ' => ?_ | refine cp_drawX ?_
    repeat' (first | ((first | ((with_reducible apply AP.k_any); first | refine AP.ST ?_ | (refine AP.Y ?_; dsimp only) | refine AP.G (fun hg => ?_) (fun hg => ?_) | (refine AP.V (fun c hnil => ?_); simp only [nz])  | refine AP.PF ?_) | ((with_reducible apply DW.k_any); first | refine DW.ST ?_ | ((fail_if_success refine DW.known rfl ?_); refine DW.G (fun hg => ?_) (fun hg => ?_))) | ((with_reducible apply DW.k_any); first | refine DW.R ?_ | refine DW.R' ?_ | refine DW.W ?_ | refine DW.W' ?_ | (refine DW.known rfl ?_; (with_reducible first | apply DW.sx 2 | apply DW.sxN 2); (iterate 2 (focus (simp only [ft, nm, Nat.reduceAdd, Nat.reduceBEq, List.getElem?_cons_zero, List.getElem?_cons_succ]; exact rfl))); (focus (intro X V; simp only [ft, nm, Nat.reduceAdd, Nat.reduceBEq]; (try (refine AP.Y ?_; dsimp only)); (first  | fail); (try simp only [nx, Nat.reduceAdd, Nat.reduceSub, BEq.rfl]); refine AP.nil ?_; (first | refine ⟨trivial, rfl, ?_⟩ | refine ⟨rfl, rfl, ?_⟩); (repeat' (first | exact Mg.nil | apply Mg.keep rfl | apply Mg.take rfl)); done)); (focus (refine Exists.intro (fun _ => 0) ?_; apply Exists.intro; (repeat' (first | exact Mg.nil | apply Mg.keep rfl | apply Mg.take rfl)); done)); (iterate 2 (focus (exact rfl)))) | ((fail_if_success refine DW.known rfl ?_); refine DW.G (fun hg => ?_) (fun hg => ?_)))) <;> (try simp only [d1, nx, mx, rn, fq, Nat.mul_one, Bool.and_true, Bool.and_false, Nat.reduceBEq, Nat.reduceAdd, Nat.reduceSub, BEq.rfl])) | ((with_reducible apply AP.k_nil); first | (refine AP.nil (hQ' _ ?_); clear hQ' Q') | refine AP.nil ?_) | ((with_reducible apply DW.k_nil); refine DW.nl ?_; first | (refine hQ' _ ?_; clear hQ' Q') | skip) | ((with_reducible apply CP.k_reg); refine cp_regG fun Q' hQ' => ?_) | refine CP.W ?_ | refine cp_cond rfl (fun hc => ?_) (fun hc => ?_) | (simp only [List.append_eq, List.cons_append, List.nil_append]))
    first | refine cp_drwX fun Q' hQ' => ?_ | refine cp_drawX ?_
    repeat' (first | ((first | ((with_reducible apply AP.k_any); first | refine AP.ST ?_ | (refine AP.Y ?_; dsimp only) | refine AP.G (fun hg => ?_) (fun hg => ?_) | (refine AP.V (fun c hnil => ?_); simp only [nz])  | refine AP.PF ?_) | ((with_reducible apply DW.k_any); first | refine DW.ST ?_ | ((fail_if_success refine DW.known rfl ?_); refine DW.G (fun hg => ?_) (fun hg => ?_))) | ((with_reducible apply DW.k_any); first | refine DW.R ?_ | refine DW.R' ?_ | refine DW.W ?_ | refine DW.W' ?_ | (refine DW.known rfl ?_; (with_reducible first | apply DW.sx 2 | apply DW.sxN 2); (iterate 2 (focus (simp only [ft, nm, Nat.reduceAdd, Nat.reduceBEq, List.getElem?_cons_zero, List.getElem?_cons_succ]; exact rfl))); (focus (intro X V; simp only [ft, nm, Nat.reduceAdd, Nat.reduceBEq]; (try (refine AP.Y ?_; dsimp only)); (first  | fail); (try simp only [nx, Nat.reduceAdd, Nat.reduceSub, BEq.rfl]); refine AP.nil ?_; (first | refine ⟨trivial, rfl, ?_⟩ | refine ⟨rfl, rfl, ?_⟩); (repeat' (first | exact Mg.nil | apply Mg.keep rfl | apply Mg.take rfl)); done)); (focus (refine Exists.intro (fun _ => 0) ?_; apply Exists.intro; (repeat' (first | exact Mg.nil | apply Mg.keep rfl | apply Mg.take rfl)); done)); (iterate 2 (focus (exact rfl)))) | ((fail_if_success refine DW.known rfl ?_); refine DW.G (fun hg => ?_) (fun hg => ?_)))) <;> (try simp only [d1, nx, mx, rn, fq, Nat.mul_one, Bool.and_true, Bool.and_false, Nat.reduceBEq, Nat.reduceAdd, Nat.reduceSub, BEq.rfl])) | ((with_reducible apply AP.k_nil); first | (refine AP.nil (hQ' _ ?_); clear hQ' Q') | refine AP.nil ?_) | ((with_reducible apply DW.k_nil); refine DW.nl ?_; first | (refine hQ' _ ?_; clear hQ' Q') | skip) | ((with_reducible apply CP.k_reg); refine cp_regG fun Q' hQ' => ?_) | refine CP.W ?_ | refine cp_cond rfl (fun hc => ?_) (fun hc => ?_) | (simp only [List.append_eq, List.cons_append, List.nil_append]))
    refine CP.gh (gh_openM (j := 2) (n := n) rfl hc rfl rfl) ?_
    simp only [nx, Nat.reduceAdd, Nat.reduceSub, BEq.rfl]
    repeat' (first | ((first | ((with_reducible apply AP.k_any); first | refine AP.ST ?_ | (refine AP.Y ?_; dsimp only) | refine AP.G (fun hg => ?_) (fun hg => ?_) | (refine AP.V (fun c hnil => ?_); simp only [nz]) | ((with_reducible apply AP.k_any); refine AP.B 0 (h7) ?_) | refine AP.PF ?_) | ((with_reducible apply DW.k_any); first | refine DW.ST ?_ | ((fail_if_success refine DW.known rfl ?_); refine DW.G (fun hg => ?_) (fun hg => ?_))) | ((with_reducible apply DW.k_any); first | refine DW.R ?_ | refine DW.R' ?_ | refine DW.W ?_ | refine DW.W' ?_ | (refine DW.known rfl ?_; (with_reducible first | apply DW.sx 2 | apply DW.sxN 2); (iterate 2 (focus (simp only [ft, nm, Nat.reduceAdd, Nat.reduceBEq, List.getElem?_cons_zero, List.getElem?_cons_succ]; exact rfl))); (focus (intro X V; simp only [ft, nm, Nat.reduceAdd, Nat.reduceBEq]; (try (refine AP.Y ?_; dsimp only)); (first | ((with_reducible apply AP.k_any); refine AP.B 0 (h7) ?_) | fail); (try simp only [nx, Nat.reduceAdd, Nat.reduceSub, BEq.rfl]); refine AP.nil ?_; (first | refine ⟨trivial, rfl, ?_⟩ | refine ⟨rfl, rfl, ?_⟩); (repeat' (first | exact Mg.nil | apply Mg.keep rfl | apply Mg.take rfl)); done)); (focus (refine Exists.intro (fun _ => 0) ?_; apply Exists.intro; (repeat' (first | exact Mg.nil | apply Mg.keep rfl | apply Mg.take rfl)); done)); (iterate 2 (focus (exact rfl)))) | ((fail_if_success refine DW.known rfl ?_); refine DW.G (fun hg => ?_) (fun hg => ?_)))) <;> (try simp only [d1, nx, mx, rn, fq, Nat.mul_one, Bool.and_true, Bool.and_false, Nat.reduceBEq, Nat.reduceAdd, Nat.reduceSub, BEq.rfl])) | ((with_reducible apply AP.k_nil); first | (refine AP.nil (hQ' _ ?_); clear hQ' Q') | refine AP.nil ?_) | ((with_reducible apply CP.k_drw); refine cp_drwX fun Q' hQ' => ?_) | ((with_reducible apply CP.k_drw1); refine cp_drawX ?_) | ((with_reducible apply DW.k_nil); refine DW.nl ?_; first | (refine hQ' _ ?_; clear hQ' Q') | skip) | ((with_reducible apply CP.k_reg); refine cp_regG fun Q' hQ' => ?_) | refine CP.W ?_ | refine cp_cond rfl (fun hc => ?_) (fun hc => ?_) | (simp only [List.append_eq, List.cons_append, List.nil_append]))
    (exact RetQ.A [(0, 0)] (by exact ⟨rfl, rfl⟩))
  · rw [ht] at h7 ⊢
    dsimp only at h7 ⊢
    rw [if_pos (by decide)]
    dsimp only
    rw [e1, pk0_eP, eP_z]
    clear e1
    refine AC.N Tryz.func10 Tryz.ntmps10 ?_
    intro X hρ hmks
    simp only [nx, Nat.reduceAdd, Nat.reduceSub, BEq.rfl]
    refine CP.gh gh_slot ?_; simp only [nx, Nat.reduceAdd, Nat.reduceSub, BEq.rfl]
    refine CP.gh gh_slot ?_; simp only [nx, Nat.reduceAdd, Nat.reduceSub, BEq.rfl]
    refine CP.gh gh_slot ?_; simp only [nx, Nat.reduceAdd, Nat.reduceSub, BEq.rfl]
    refine CP.gh gh_slot ?_; simp only [nx, Nat.reduceAdd, Nat.reduceSub, BEq.rfl]
    repeat' (first | ((first | ((with_reducible apply AP.k_any); first | refine AP.ST ?_ | (refine AP.Y ?_; dsimp only) | refine AP.G (fun hg => ?_) (fun hg => ?_) | (refine AP.V (fun c hnil => ?_); simp only [nz])  | refine AP.PF ?_)) <;> (try simp only [d1, nx, mx, rn, fq, Nat.mul_one, Bool.and_true, Bool.and_false, Nat.reduceBEq, Nat.reduceAdd, Nat.reduceSub, BEq.rfl])) | ((with_reducible apply AP.k_nil); first | (refine AP.nil (hQ' _ ?_); clear hQ' Q') | refine AP.nil ?_) | ((with_reducible apply CP.k_reg); refine cp_regG fun Q' hQ' => ?_) | refine CP.W ?_ | refine cp_cond rfl (fun hc => ?_) (fun hc => ?_) | (simp only [List.append_eq, List.cons_append, List.nil_append]))
    first | refine cp_drwX fun Q' hQ' => ?_ | refine cp_drawX ?_
    repeat' (first | ((first | ((with_reducible apply AP.k_any); first | refine AP.ST ?_ | (refine AP.Y ?_; dsimp only) | refine AP.G (fun hg => ?_) (fun hg => ?_) | (refine AP.V (fun c hnil => ?_); simp only [nz])  | refine AP.PF ?_) | ((with_reducible apply DW.k_any); first | refine DW.ST ?_ | ((fail_if_success refine DW.known rfl ?_); refine DW.G (fun hg => ?_) (fun hg => ?_))) | ((with_reducible apply DW.k_any); first | refine DW.R ?_ | refine DW.R' ?_ | refine DW.W ?_ | refine DW.W' ?_ | (refine DW.known rfl ?_; (with_reducible first | apply DW.sx 2 | apply DW.sxN 2); (iterate 2 (focus (simp only [ft, nm, Nat.reduceAdd, Nat.reduceBEq, List.getElem?_cons_zero, List.getElem?_cons_succ]; exact rfl))); (focus (intro X V; simp only [ft, nm, Nat.reduceAdd, Nat.reduceBEq]; (try (refine AP.Y ?_; dsimp only)); (first  | fail); (try simp only [nx, Nat.reduceAdd, Nat.reduceSub, BEq.rfl]); refine AP.nil ?_; (first | refine ⟨trivial, rfl, ?_⟩ | refine ⟨rfl, rfl, ?_⟩); (repeat' (first | exact Mg.nil | apply Mg.keep rfl | apply Mg.take rfl)); done)); (focus (refine Exists.intro (fun _ => 0) ?_; apply Exists.intro; (repeat' (first | exact Mg.nil | apply Mg.keep rfl | apply Mg.take rfl)); done)); (iterate 2 (focus (exact rfl)))) | ((fail_if_success refine DW.known rfl ?_); refine DW.G (fun hg => ?_) (fun hg => ?_)))) <;> (try simp only [d1, nx, mx, rn, fq, Nat.mul_one, Bool.and_true, Bool.and_false, Nat.reduceBEq, Nat.reduceAdd, Nat.reduceSub, BEq.rfl])) | ((with_reducible apply AP.k_nil); first | (refine AP.nil (hQ' _ ?_); clear hQ' Q') | refine AP.nil ?_) | ((with_reducible apply DW.k_nil); refine DW.nl ?_; first | (refine hQ' _ ?_; clear hQ' Q') | skip) | ((with_reducible apply CP.k_reg); refine cp_regG fun Q' hQ' => ?_) | refine CP.W ?_ | refine cp_cond rfl (fun hc => ?_) (fun hc => ?_) | (simp only [List.append_eq, List.cons_append, List.nil_append]))
    first | refine cp_drwX fun Q' hQ' => ?_ | refine cp_drawX ?_
    repeat' (first | ((first | ((with_reducible apply AP.k_any); first | refine AP.ST ?_ | (refine AP.Y ?_; dsimp only) | refine AP.G (fun hg => ?_) (fun hg => ?_) | (refine AP.V (fun c hnil => ?_); simp only [nz])  | refine AP.PF ?_) | ((with_reducible apply DW.k_any); first | refine DW.ST ?_ | ((fail_if_success refine DW.known rfl ?_); refine DW.G (fun hg => ?_) (fun hg => ?_))) | ((with_reducible apply DW.k_any); first | refine DW.R ?_ | refine DW.R' ?_ | refine DW.W ?_ | refine DW.W' ?_ | (refine DW.known rfl ?_; (with_reducible first | apply DW.sx 2 | apply DW.sxN 2); (iterate 2 (focus (simp only [ft, nm, Nat.reduceAdd, Nat.reduceBEq, List.getElem?_cons_zero, List.getElem?_cons_succ]; exact rfl))); (focus (intro X V; simp only [ft, nm, Nat.reduceAdd, Nat.reduceBEq]; (try (refine AP.Y ?_; dsimp only)); (first  | fail); (try simp only [nx, Nat.reduceAdd, Nat.reduceSub, BEq.rfl]); refine AP.nil ?_; (first | refine ⟨trivial, rfl, ?_⟩ | refine ⟨rfl, rfl, ?_⟩); (repeat' (first | exact Mg.nil | apply Mg.keep rfl | apply Mg.take rfl)); done)); (focus (refine Exists.intro (fun _ => 0) ?_; apply Exists.intro; (repeat' (first | exact Mg.nil | apply Mg.keep rfl | apply Mg.take rfl)); done)); (iterate 2 (focus (exact rfl)))) | ((fail_if_success refine DW.known rfl ?_); refine DW.G (fun hg => ?_) (fun hg => ?_)))) <;> (try simp only [d1, nx, mx, rn, fq, Nat.mul_one, Bool.and_true, Bool.and_false, Nat.reduceBEq, Nat.reduceAdd, Nat.reduceSub, BEq.rfl])) | ((with_reducible apply AP.k_nil); first | (refine AP.nil (hQ' _ ?_); clear hQ' Q') | refine AP.nil ?_) | ((with_reducible apply DW.k_nil); refine DW.nl ?_; first | (refine hQ' _ ?_; clear hQ' Q') | skip) | ((with_reducible apply CP.k_reg); refine cp_regG fun Q' hQ' => ?_) | refine CP.W ?_ | refine cp_cond rfl (fun hc => ?_) (fun hc => ?_) | (simp only [List.append_eq, List.cons_append, List.nil_append]))
    refine CP.gh (gh_openM (j := 2) (n := n) rfl hc rfl rfl) ?_
    simp only [nx, Nat.reduceAdd, Nat.reduceSub, BEq.rfl]
    repeat' (first | ((first | ((with_reducible apply AP.k_any); first | refine AP.ST ?_ | (refine AP.Y ?_; dsimp only) | refine AP.G (fun hg => ?_) (fun hg => ?_) | (refine AP.V (fun c hnil => ?_); simp only [nz]) | ((with_reducible apply AP.k_any); refine AP.B 0 (h7) ?_) | refine AP.PF ?_) | ((with_reducible apply DW.k_any); first | refine DW.ST ?_ | ((fail_if_success refine DW.known rfl ?_); refine DW.G (fun hg => ?_) (fun hg => ?_))) | ((with_reducible apply DW.k_any); first | refine DW.R ?_ | refine DW.R' ?_ | refine DW.W ?_ | refine DW.W' ?_ | (refine DW.known rfl ?_; (with_reducible first | apply DW.sx 2 | apply DW.sxN 2); (iterate 2 (focus (simp only [ft, nm, Nat.reduceAdd, Nat.reduceBEq, List.getElem?_cons_zero, List.getElem?_cons_succ]; exact rfl))); (focus (intro X V; simp only [ft, nm, Nat.reduceAdd, Nat.reduceBEq]; (try (refine AP.Y ?_; dsimp only)); (first | ((with_reducible apply AP.k_any); refine AP.B 0 (h7) ?_) | fail); (try simp only [nx, Nat.reduceAdd, Nat.reduceSub, BEq.rfl]); refine AP.nil ?_; (first | refine ⟨trivial, rfl, ?_⟩ | refine ⟨rfl, rfl, ?_⟩); (repeat' (first | exact Mg.nil | apply Mg.keep rfl | apply Mg.take rfl)); done)); (focus (refine Exists.intro (fun _ => 0) ?_; apply Exists.intro; (repeat' (first | exact Mg.nil | apply Mg.keep rfl | apply Mg.take rfl)); done)); (iterate 2 (focus (exact rfl)))) | ((fail_if_success refine DW.known rfl ?_); refine DW.G (fun hg => ?_) (fun hg => ?_)))) <;> (try simp only [d1, nx, mx, rn, fq, Nat.mul_one, Bool.and_true, Bool.and_false, Nat.reduceBEq, Nat.reduceAdd, Nat.reduceSub, BEq.rfl])) | ((with_reducible apply AP.k_nil); first | (refine AP.nil (hQ' _ ?_); clear hQ' Q') | refine AP.nil ?_) | ((with_reducible apply CP.k_drw); refine cp_drwX fun Q' hQ' => ?_) | ((with_reducible apply CP.k_drw1); refine cp_drawX ?_) | ((with_reducible apply DW.k_nil); refine DW.nl ?_; first | (refine hQ' _ ?_; clear hQ' Q') | skip) | ((with_reducible apply CP.k_reg); refine cp_regG fun Q' hQ' => ?_) | refine CP.W ?_ | refine cp_cond rfl (fun hc => ?_) (fun hc => ?_) | (simp only [List.append_eq, List.cons_append, List.nil_append]))
    (exact RetQ.A [(0, 0)] (by exact ⟨rfl, rfl⟩))
theorem get_ac (x : Ends) (b : List UInt8) (hb : b.length ≤ 60000) (hr : x.root.length ≤ 10000) (hwo : ∀ q ∈ x.wins, q.2.ok) : AC Tryz.prog 10 [.bp 0 0 0, bs none b] [xE x] (fun v bs' => v = .tu [.ag (eP (x.get b).1.1), I (x.get b).1.2] ∧ bs' = [xE (x.get b).2]) := by
  rcases parse_two b with h | ⟨h, hm⟩
  · exact get_bad x b (by omega) h
  · by_cases h3 : (parseP b).1.to = x.who
    · by_cases h4 : (parseP b).1.tag = tagS x.root (parseP b).1
      · cases ha : at_ ((parseP b).1.frm, (parseP b).1.epoch) x.wins with
        | none => exact get_new x b hb hr h h3 h4 hm ha
        | some n => exact get_old x b hb hr hwo h h3 h4 hm ha
      · exact get_tag x b hb hr h h3 h4
    · exact get_far x b (by omega) h h3
end Go.Proofs.YtnjfchigdpifmaaGreat

namespace Go.Proofs.YtnjfchigdpifmaaGreat
set_option linter.unusedVariables false
set_option linter.unusedSimpArgs false
set_option maxHeartbeats 8000000
open Go.RowKit
set_option maxRecDepth 100000
structure Ac where
  send : Bool
  to : Int
  epoch : Int
  body : List UInt8
  bytes : List UInt8
abbrev eAc (a : Ac) : List AV := [B a.send, I a.to, I a.epoch, bs none a.body, bs none a.bytes]
theorem send_len (y : De) (to epoch : Int) (body : List UInt8) (hb : body.length ≤ 500) : (y.send to epoch body).1.1.length ≤ 65536 := by
  unfold De.send
  split
  · show (headS _ ++ tagS _ _).length ≤ _
    rw [List.length_append, headS_len, tagS_len]
    show _ + body.length + _ ≤ _
    omega
  · exact Nat.zero_le _
theorem get_len (y : De) (b : List UInt8) (hb : b.length ≤ 500) : (y.get b).1.1.body.length ≤ 1000 := by
  have h := parseP_body b hb
  unfold De.get
  split
  · exact Nat.zero_le _
  split
  · exact Nat.zero_le _
  dsimp only
  split
  · exact Nat.zero_le _
  · show (parseP b).1.body.length ≤ _
    omega
theorem lends (root : List UInt8) (who boot : Int) (L : List Ac) (hr : root.length ≤ 200) (hL : L.length ≤ 40) : AC Tryz.prog 3 [bs none root, I who, I boot, .sl none 5 (L.map eAc)] [] (fun v bs' => v = B true ∧ bs' = []) := by
  have d1 : decide ((200 : Int) < (root.length : Int)) = false := by simp; omega
  have d2 : decide ((40 : Int) < (L.length : Int)) = false := by simp; omega
  have n0 := lnew_ac root who boot (by omega)
  have n1 := dnew19_ac root who boot (by omega)
  refine AC.N Tryz.func3 Tryz.ntmps3 ?_
  intro X hρ hmks
  simp only [nx, Nat.reduceAdd, Nat.reduceSub, BEq.rfl]
  repeat' (first | ((first | ((with_reducible apply AP.k_any); first | refine AP.ST ?_ | (refine AP.Y ?_; dsimp only) | refine AP.G (fun hg => ?_) (fun hg => ?_) | (refine AP.V (fun c hnil => ?_); simp only [nz]) | ((with_reducible apply AP.k_any); refine AP.B 1 (n0) ?_) | ((with_reducible apply AP.k_any); refine AP.B 1 (n1) ?_) | refine AP.PF ?_)) <;> (try simp only [d1, d2, List.length_map, nx, mx, rn, fq, Nat.mul_one, Bool.and_true, Bool.and_false, Nat.reduceBEq, Nat.reduceAdd, Nat.reduceSub, BEq.rfl])) | ((with_reducible apply AP.k_nil); first | (refine AP.nil (hQ' _ ?_); clear hQ' Q') | refine AP.nil ?_) | ((with_reducible apply CP.k_reg); refine cp_regG fun Q' hQ' => ?_) | refine CP.W ?_ | refine cp_cond rfl (fun hc => ?_) (fun hc => ?_) | (simp only [List.append_eq, List.cons_append, List.nil_append]))
  clear n0 n1
  refine CP.gh gh_slot ?_; simp only [nx, Nat.reduceAdd, Nat.reduceSub, BEq.rfl]
  refine CP.gh gh_slot ?_; simp only [nx, Nat.reduceAdd, Nat.reduceSub, BEq.rfl]
  refine CP.gh gh_slot ?_; simp only [nx, Nat.reduceAdd, Nat.reduceSub, BEq.rfl]
  refine CP.gh gh_slot ?_; simp only [nx, Nat.reduceAdd, Nat.reduceSub, BEq.rfl]
  refine cp_loopS [8, 11, 12, 13, 14, 15, 16, 17, 18, 19, 20, 21, 22, 39, 40, 41, 42, 43, 44, 45, 46, 47, 48, 49, 50, 51, 52, 53, 54, 55, 56, 57, 58, 59, 60, 61, 62, 63, 64, 65, 66, 67, 68, 69, 70, 71, 72, 73, 74, 75, 76, 77, 78, 79, 80, 81, 82, 83, 84, 85, 86, 87, 88, 89, 90, 91, 92, 93, 94, 95, 96, 97, 98, 99, 100, 101, 102, 103, 104, 105, 106, 107, 108, 109, 110, 111, 112, 113, 114, 115, 116, 117, 118, 119, 120, 121, 122, 123, 124, 125, 126, 127, 128, 129, 130, 131, 132] (fun a : Nat × Nat × Nat × Ends × De => L.length - a.1) (fun a => a.1 ≤ L.length ∧ Iv root who boot a.2.2.2.1 a.2.2.2.2 a.1) (fun a => [(11, I a.1)])
    (fun a => [(0, ⟨1, .c tEn [B true, bs none a.2.2.2.1.root, I a.2.2.2.1.who, I a.2.2.2.1.boot, .hd 1 (a.1 + 1), .hd 2 (a.1 + 1)]⟩), (1, ⟨a.1 + 1, .m (keyN a.2.2.2.1.sent) (rowN a.2.2.2.1.sent) none none⟩), (2, ⟨a.1 + 1, .m (keyW a.2.2.2.1.wins) (rowW a.2.2.2.1.wins) none none⟩),
      (3, ⟨1, .c tDe [bs none a.2.2.2.2.root, I a.2.2.2.2.who, I a.2.2.2.2.boot, .hd 4 (a.1 + 1)]⟩), (4, ⟨a.1 + 1, .r tDs 4 (a.2.2.2.2.l.map sdC)⟩), (5, ⟨a.1, .x⟩), (6, ⟨a.2.2.1, .x⟩), (7, ⟨a.2.1, .x⟩), (8, ⟨0, .x⟩)]) (0, 0, 0, ⟨root, who, boot, [], []⟩, ⟨root, who, boot, []⟩) ⟨Nat.zero_le _, Iv.new _ _ _⟩ (by exact Gh.W) ?_
  rintro ⟨i, g, h, x, y⟩ ⟨hi, hI⟩
  simp only [setT, deT, setB, List.set_cons_succ, List.set_cons_zero]
  dsimp only at hi hI
  have hxr : x.root.length ≤ 10000 := by rw [hI.xr]; omega
  have hyr : y.root.length ≤ 10000 := by rw [← hI.re.root]; exact hxr
  have hyl := hI.len
  by_cases hlt : i < L.length
  · have q1 : decide ((i : Int) < (L.length : Int)) = true := by simp; omega
    have q2 : IntKind.i64.wrap ((i : Int) + 1) = ((i + 1 : Nat) : Int) := wrap_i64 (by omega) (by omega)
    have hA : (L.map eAc)[i]? = some (eAc L[i]) := by rw [List.getElem?_map, List.getElem?_eq_getElem hlt]; rfl
    generalize L[i] = a at *
    obtain ⟨sd, to, ep, body, byts⟩ := a
    dsimp only [eAc] at hA
    by_cases hb1 : 500 < body.length
    · have q3 : decide ((500 : Int) < (body.length : Int)) = true := by simp; omega
      repeat' (first | ((first | ((with_reducible apply AP.k_any); first | refine AP.ST ?_ | (refine AP.Y ?_; dsimp only) | refine AP.G (fun hg => ?_) (fun hg => ?_) | (refine AP.V (fun c hnil => ?_); simp only [nz])  | refine AP.PF ?_)) <;> (try simp only [q1, q3, List.length_map, nx, mx, rn, fq, Nat.mul_one, Bool.and_true, Bool.and_false, Nat.reduceBEq, Nat.reduceAdd, Nat.reduceSub, BEq.rfl])) | ((with_reducible apply AP.k_nil); first | (refine AP.nil (hQ' _ ?_); clear hQ' Q') | refine AP.nil ?_) | ((with_reducible apply CP.k_reg); refine cp_regG fun Q' hQ' => ?_) | refine CP.W ?_ | refine cp_cond rfl (fun hc => ?_) (fun hc => ?_) | (simp only [List.append_eq, List.cons_append, List.nil_append]))
      (exact RetQ.A [] (by exact ⟨rfl, rfl⟩))
    · have q3 : decide ((500 : Int) < (body.length : Int)) = false := by simp; omega
      by_cases hb2 : 500 < byts.length
      · have q4 : decide ((500 : Int) < (byts.length : Int)) = true := by simp; omega
        repeat' (first | ((first | ((with_reducible apply AP.k_any); first | refine AP.ST ?_ | (refine AP.Y ?_; dsimp only) | refine AP.G (fun hg => ?_) (fun hg => ?_) | (refine AP.V (fun c hnil => ?_); simp only [nz])  | refine AP.PF ?_)) <;> (try simp only [q1, q3, q4, List.length_map, nx, mx, rn, fq, Nat.mul_one, Bool.and_true, Bool.and_false, Nat.reduceBEq, Nat.reduceAdd, Nat.reduceSub, BEq.rfl])) | ((with_reducible apply AP.k_nil); first | (refine AP.nil (hQ' _ ?_); clear hQ' Q') | refine AP.nil ?_) | ((with_reducible apply CP.k_reg); refine cp_regG fun Q' hQ' => ?_) | refine CP.W ?_ | refine cp_cond rfl (fun hc => ?_) (fun hc => ?_) | (simp only [List.append_eq, List.cons_append, List.nil_append]))
        (exact RetQ.A [] (by exact ⟨rfl, rfl⟩))
      · have q4 : decide ((500 : Int) < (byts.length : Int)) = false := by simp; omega
        cases sd with
        | true =>
          have hs := hI.sent (to, ep)
          have hx := send_ac x to ep body hxr (by omega) (by rw [hI.re.sent]; omega)
          have hy := dsend_ac y to ep body (by omega) hyr (by omega) (by omega)
          have hv := hI.send to ep body
          have hl := send_len y to ep body (by omega)
          rw [(hI.re.send to ep body).1] at hx
          generalize (x.send to ep body).2 = x' at *
          generalize (y.send to ep body).2 = y' at *
          generalize (y.send to ep body).1 = r at *
          obtain ⟨c, f⟩ := r
          dsimp only at hx hy hl
          have q5 : (f != f) = false := by simp
          have k1 := copy_ac body (by omega)
          have k2 := same_ac c c (by omega)
          have k3 := same_ac body body (by omega)
          rw [decide_eq_true rfl] at k2 k3
          repeat' (first | ((first | ((with_reducible apply AP.k_any); first | refine AP.ST ?_ | (refine AP.Y ?_; dsimp only) | refine AP.G (fun hg => ?_) (fun hg => ?_) | (refine AP.V (fun c hnil => ?_); simp only [nz]) | ((with_reducible apply AP.k_any); refine AP.B 0 (hx) ?_) | ((with_reducible apply AP.k_any); refine AP.B 0 (hy) ?_) | ((with_reducible apply AP.k_any); refine AP.C (k2) ?_) | ((with_reducible apply AP.k_any); refine AP.C (k3) ?_) | refine AP.PF ?_)) <;> (try simp only [q1, q2, q3, q4, q5, List.length_map, nx, mx, rn, fq, Nat.mul_one, Bool.and_true, Bool.and_false, Nat.reduceBEq, Nat.reduceAdd, Nat.reduceSub, BEq.rfl])) | ((with_reducible apply AP.k_nil); first | (refine AP.nil (hQ' _ ?_); clear hQ' Q') | refine AP.nil ?_) | ((with_reducible apply CP.k_reg); refine cp_regG fun Q' hQ' => ?_) | refine CP.W ?_ | refine cp_cond rfl (fun hc => ?_) (fun hc => ?_) | (simp only [List.append_eq, List.cons_append, List.nil_append]))
          exact ⟨(i + 1, g, h + 1, x', y'), by dsimp only; omega, ⟨by dsimp only; omega, hv⟩, by exact Gh.W⟩
        | false =>
          have hx := get_ac x byts (by omega) hxr hI.ok
          have hy := dget_ac y byts (by omega) hyr (by omega) (fun s => ⟨by have := hI.came s; omega, (hI.came s).2⟩)
          have hv := hI.get byts
          have hl := get_len y byts (by omega)
          rw [(hI.re.get byts).1] at hx
          generalize (x.get byts).2 = x' at *
          generalize (y.get byts).2 = y' at *
          generalize (y.get byts).1 = r at *
          obtain ⟨p, f⟩ := r
          dsimp only at hx hy hl
          have q5 : (f != f) = false := by simp
          have k1 := copy_ac byts (by omega)
          have k2 := sameP_ac p (by omega)
          have k3 := same_ac byts byts (by omega)
          rw [decide_eq_true rfl] at k3
          repeat' (first | ((first | ((with_reducible apply AP.k_any); first | refine AP.ST ?_ | (refine AP.Y ?_; dsimp only) | refine AP.G (fun hg => ?_) (fun hg => ?_) | (refine AP.V (fun c hnil => ?_); simp only [nz]) | ((with_reducible apply AP.k_any); refine AP.B 0 (hx) ?_) | ((with_reducible apply AP.k_any); refine AP.B 0 (hy) ?_) | ((with_reducible apply AP.k_any); refine AP.C (k2) ?_) | ((with_reducible apply AP.k_any); refine AP.C (k3) ?_) | refine AP.PF ?_)) <;> (try simp only [q1, q2, q3, q4, q5, List.length_map, nx, mx, rn, fq, Nat.mul_one, Bool.and_true, Bool.and_false, Nat.reduceBEq, Nat.reduceAdd, Nat.reduceSub, BEq.rfl])) | ((with_reducible apply AP.k_nil); first | (refine AP.nil (hQ' _ ?_); clear hQ' Q') | refine AP.nil ?_) | ((with_reducible apply CP.k_reg); refine cp_regG fun Q' hQ' => ?_) | refine CP.W ?_ | refine cp_cond rfl (fun hc => ?_) (fun hc => ?_) | (simp only [List.append_eq, List.cons_append, List.nil_append]))
          exact ⟨(i + 1, g + 1, h + 1 + 1, x', y'), by dsimp only; omega, ⟨by dsimp only; omega, hv⟩, by exact Gh.W⟩
  · obtain rfl : i = L.length := by omega
    have q1 : decide ((L.length : Int) < (L.length : Int)) = false := by simp
    have h3 := lboot_ac x
    have q5 : (x.boot == boot) = true := by rw [hI.xb]; simp
    repeat' (first | ((first | ((with_reducible apply AP.k_any); first | refine AP.ST ?_ | (refine AP.Y ?_; dsimp only) | refine AP.G (fun hg => ?_) (fun hg => ?_) | (refine AP.V (fun c hnil => ?_); simp only [nz]) | ((with_reducible apply AP.k_any); refine AP.B 0 (h3) ?_) | refine AP.PF ?_)) <;> (try simp only [q1, q5, List.length_map, nx, mx, rn, fq, Nat.mul_one, Bool.and_true, Bool.and_false, Nat.reduceBEq, Nat.reduceAdd, Nat.reduceSub, BEq.rfl])) | ((with_reducible apply AP.k_nil); first | (refine AP.nil (hQ' _ ?_); clear hQ' Q') | refine AP.nil ?_) | ((with_reducible apply CP.k_reg); refine cp_regG fun Q' hQ' => ?_) | refine CP.W ?_ | refine cp_cond rfl (fun hc => ?_) (fun hc => ?_) | (simp only [List.append_eq, List.cons_append, List.nil_append]))
    (exact RetQ.A [] (by exact ⟨rfl, rfl⟩))
theorem lends_big (root : List UInt8) (who boot : Int) (L : List Ac) (hb : 200 < root.length ∨ 40 < L.length) : AC Tryz.prog 3 [bs none root, I who, I boot, .sl none 5 (L.map eAc)] [] (fun v bs' => v = B true ∧ bs' = []) := by
  by_cases h : 200 < root.length
  · have d1 : decide ((200 : Int) < (root.length : Int)) = true := by simp; omega
    refine AC.N Tryz.func3 Tryz.ntmps3 ?_
    intro X hρ hmks
    simp only [nx, Nat.reduceAdd, Nat.reduceSub, BEq.rfl]
    repeat' (first | ((first | ((with_reducible apply AP.k_any); first | refine AP.ST ?_ | (refine AP.Y ?_; dsimp only) | refine AP.G (fun hg => ?_) (fun hg => ?_) | (refine AP.V (fun c hnil => ?_); simp only [nz])  | refine AP.PF ?_)) <;> (try simp only [d1, List.length_map, nx, mx, rn, fq, Nat.mul_one, Bool.and_true, Bool.and_false, Nat.reduceBEq, Nat.reduceAdd, Nat.reduceSub, BEq.rfl])) | ((with_reducible apply AP.k_nil); first | (refine AP.nil (hQ' _ ?_); clear hQ' Q') | refine AP.nil ?_) | ((with_reducible apply CP.k_reg); refine cp_regG fun Q' hQ' => ?_) | refine CP.W ?_ | refine cp_cond rfl (fun hc => ?_) (fun hc => ?_) | (simp only [List.append_eq, List.cons_append, List.nil_append]))
    (exact RetQ.A [] (by exact ⟨rfl, rfl⟩))
  · have d1 : decide ((200 : Int) < (root.length : Int)) = false := by simp; omega
    have d2 : decide ((40 : Int) < (L.length : Int)) = true := by simp; omega
    refine AC.N Tryz.func3 Tryz.ntmps3 ?_
    intro X hρ hmks
    simp only [nx, Nat.reduceAdd, Nat.reduceSub, BEq.rfl]
    repeat' (first | ((first | ((with_reducible apply AP.k_any); first | refine AP.ST ?_ | (refine AP.Y ?_; dsimp only) | refine AP.G (fun hg => ?_) (fun hg => ?_) | (refine AP.V (fun c hnil => ?_); simp only [nz])  | refine AP.PF ?_)) <;> (try simp only [d1, d2, List.length_map, nx, mx, rn, fq, Nat.mul_one, Bool.and_true, Bool.and_false, Nat.reduceBEq, Nat.reduceAdd, Nat.reduceSub, BEq.rfl])) | ((with_reducible apply AP.k_nil); first | (refine AP.nil (hQ' _ ?_); clear hQ' Q') | refine AP.nil ?_) | ((with_reducible apply CP.k_reg); refine cp_regG fun Q' hQ' => ?_) | refine CP.W ?_ | refine cp_cond rfl (fun hc => ?_) (fun hc => ?_) | (simp only [List.append_eq, List.cons_append, List.nil_append]))
    (exact RetQ.A [] (by exact ⟨rfl, rfl⟩))
theorem lend (root : List UInt8) (who boot : Int) (L : List Ac) : AC Tryz.prog 3 [bs none root, I who, I boot, .sl none 5 (L.map eAc)] [] (fun v bs' => v = B true ∧ bs' = []) := by
  by_cases hb : 200 < root.length ∨ 40 < L.length
  · exact lends_big root who boot L hb
  · exact lends root who boot L (by omega) (by omega)
end Go.Proofs.YtnjfchigdpifmaaGreat
