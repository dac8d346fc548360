/-
  THE LAW'S ARGUMENTS AS PLAIN DATA; AND THE LAW'S LAST STEP. Nothing here names a function of the program.
-/
import Derived.Test.YtkdbedbefojieaaData
import Derived.OpenShut
namespace Go.Proofs.Ytkdbedbefojieaa
set_option linter.unusedVariables false
set_option linter.unusedSimpArgs false
open Go.RowKit Go.ChangeShapes Go.WideShapes Go.ChangeAt Go.Deep
set_option maxRecDepth 100000

/-- what reads as data of a type reads as my data -/
def Opens (P : Program) (t : TypeId) {α : Type} (T : Ty α) : Prop :=
  ∀ {H : Type} {enc : TypeId × Value → H} {w : World} {base : Nat} {spare : Nat → Bool} {held : Bool} {fuel : Nat} {cs : List Value} {x : DataW H × List MemPlace},
    DataW.trod enc P w base spare held fuel t cs = some x → ∃ d : α, T.rd w (fun b => b < w.heap.size) cs d
section
variable {P : Program} {t e : TypeId}
theorem opens_int {k : IntKind} (ht : P.underlying t = some (.int k)) : Opens P t (tI k) := by
  intro H enc w base spare held fuel cs x h
  obtain ⟨n, rfl, _, hw⟩ := DataW.trod_int ht h
  exact ⟨n, rfl, hw⟩
theorem opens_bool (ht : P.underlying t = some .bool) : Opens P t tB := by
  intro H enc w base spare held fuel cs x h
  obtain ⟨n, rfl, _⟩ := DataW.trod_bool ht h
  exact ⟨n, rfl⟩
theorem opens_u8 (ht : P.underlying t = some (.int .u8)) : Opens P t tU8 := by
  intro H enc w base spare held fuel cs x h
  obtain ⟨n, rfl, _, hw⟩ := DataW.trod_int ht h
  have hr := wf_u8 hw
  refine ⟨UInt8.ofNat n.toNat, ?_⟩
  have : ((UInt8.ofNat n.toNat).toNat : Int) = n := by rw [UInt8.toNat_ofNat']; omega
  simp only [tU8, this]
theorem opens_slice {α : Type} {T : Ty α} (hT : 0 < T.size) (ht : P.underlying t = some (.slice e)) (hc : P.cellsOf e = T.size) (hE : Opens P e T) : Opens P t (tSl T hT) := by
  intro H enc w base spare held fuel cs x h
  rcases open_slice ht h with ⟨rfl, _⟩ | ⟨a, len, cap, m, n, D, Pl, rfl, hb, hl, hm, hmm, hx, hi⟩
  · exact ⟨[], none, 0, 0, rfl, Sl.nil⟩
  · have hle : len ≤ m := by rw [hmm]; split <;> omega
    have hall : ∀ i, i < len → ∃ (d : α) (cs' : List Value), T.rd w (fun b => b < w.heap.size) cs' d ∧ ∀ j u, cs'[j]? = some u → w.cell? ((a.add (i * T.size)).add j) = some u := by
      intro i hil
      obtain ⟨cs', hcs, htr⟩ := hi i (by omega)
      obtain ⟨d, hd⟩ := hE htr
      rw [hc] at hcs
      obtain ⟨_, hlen, hat⟩ := World.cells?_some hcs
      exact ⟨d, cs', hd, fun j u hu => (hat j (by have := (List.getElem?_eq_some_iff.1 hu).1; omega)).trans hu⟩
    have hex : ∃ l : List α, l.length = len ∧ ∀ i x, l[i]? = some x → ∃ cs' : List Value, T.rd w (fun b => b < w.heap.size) cs' x ∧ ∀ j u, cs'[j]? = some u → w.cell? ((a.add (i * T.size)).add j) = some u := by
      clear hi hx hle h
      revert hall
      clear hl hmm
      induction len with
      | zero => exact fun _ => ⟨[], rfl, fun i x h => by simp at h⟩
      | succ k ih =>
        intro hall
        obtain ⟨l, hl, hq⟩ := ih (fun i hi => hall i (by omega))
        obtain ⟨d, cs', hd, hcs⟩ := hall k (by omega)
        refine ⟨l ++ [d], by simp [hl], fun i x hx => ?_⟩
        by_cases hik : i < k
        · rw [List.getElem?_append_left (by omega)] at hx
          exact hq i x hx
        · have hik' : i = k := by have := (List.getElem?_eq_some_iff.1 hx).1; simp at this; omega
          subst hik'
          rw [List.getElem?_append_right (by omega), hl] at hx
          simp at hx
          subst hx
          exact ⟨cs', hd, hcs⟩
    obtain ⟨l, hll, hq⟩ := hex
    refine ⟨l, some a, len, cap, rfl, hll.symm, hl, hm, (fun e => by cases e), fun i x hx => ?_⟩
    obtain ⟨cs', hd, hcs⟩ := hq i x hx
    have hlen := T.len hd
    have hli := (List.getElem?_eq_some_iff.1 hx).1
    obtain ⟨cs0, hd0, hcs0⟩ := hq 0 l[0] (List.getElem?_eq_getElem (by omega))
    have hlen0 := T.len hd0
    have hz := hcs0 0 _ (List.getElem?_eq_getElem (by omega))
    obtain ⟨ab, ao, asp⟩ := a
    have hspn : asp = none := by
      cases hsp : asp with
      | none => rfl
      | some s =>
        rw [hsp] at hz
        simp [Addr.add, World.cell?] at hz
        split at hz <;> simp at hz
    subst hspn
    have h00 : ∀ j u, cs'[j]? = some u → w.cell? ⟨ab, ao + (i * T.size + j), none⟩ = some u := by
      intro j u hu
      have := hcs j u hu
      rw [addr_add, addr_add, Nat.add_assoc] at this
      exact this
    exact ⟨ab, ao, cs', rfl, lt_of_cell (h00 0 _ (List.getElem?_eq_getElem (by omega))), hd, h00⟩

theorem trod_field {fs : Array Field} {H : Type} {enc : TypeId × Value → H} {w : World} {base : Nat} {spare : Nat → Bool} {held : Bool} {fuel : Nat} {cs : List Value} {x : DataW H × List MemPlace}
    (ht : P.underlying t = some (.struct fs)) (h : DataW.trod enc P w base spare held fuel t cs = some x) (i : Nat) {f : Field} (hf : fs[i]? = some f) :
    ∃ n y, DataW.trod enc P w base spare held n f.type ((cs.drop f.offset).take (P.cellsOf f.type)) = some y := by
  obtain ⟨xs, n, _, _, _, hlen, hg⟩ := DataW.trod_struct ht h
  have hi : i < fs.size := (Array.getElem?_eq_some_iff.1 hf).1
  exact ⟨n, xs[i]'(by omega), (hg i f hf).trans (List.getElem?_eq_getElem (by omega))⟩
theorem trod_len {fs : Array Field} {H : Type} {enc : TypeId × Value → H} {w : World} {base : Nat} {spare : Nat → Bool} {held : Bool} {fuel : Nat} {cs : List Value} {x : DataW H × List MemPlace}
    (ht : P.underlying t = some (.struct fs)) (h : DataW.trod enc P w base spare held fuel t cs = some x) : cs.length = P.cellsOf t := by
  obtain ⟨xs, n, _, _, hl, _, _⟩ := DataW.trod_struct ht h
  exact hl

/-! ### arguments, one by one -/
theorem arg_struct {α : Type} {T : Ty α} {fs : Array Field} {H : Type} {enc : TypeId × Value → H} {w : World} {base b0 : Nat} {spare : Nat → Bool} {held : Bool} {r : Reach} {v : Value} {d : DataW H} {p : List MemPlace}
    (ht : P.underlying t = some (.struct fs)) (hE : Opens P t T) (hv : Value.okWide P w r b0 t v) (h : DataW.Trod enc P w base spare held t v d p) :
    ∃ cs x, v = .agg cs.toArray ∧ T.rd w (fun b => b < w.heap.size) cs x := by
  obtain ⟨cs, rfl, _⟩ := okWide_struct ht hv
  obtain ⟨fuel, hf⟩ := h
  obtain ⟨x, hx⟩ := hE hf
  exact ⟨cs.toList, x, by simp, by simpa [Value.cells] using hx⟩
theorem arg_slice {α : Type} {T : Ty α} {hT : 0 < T.size} {H : Type} {enc : TypeId × Value → H} {w : World} {base b0 : Nat} {spare : Nat → Bool} {held : Bool} {r : Reach} {v : Value} {d : DataW H} {p : List MemPlace}
    (ht : P.underlying t = some (.slice e)) (hE : Opens P t (tSl T hT)) (hv : Value.okWide P w r b0 t v) (h : DataW.Trod enc P w base spare held t v d p) :
    ∃ A n c l, v = .slice A n c ∧ Sl T w (fun b => b < w.heap.size) A n c l := by
  obtain ⟨fuel, hf⟩ := h
  obtain ⟨l, A, n, c, he, hs⟩ := hE hf
  have hvv : v = .slice A n c := by
    unfold Value.okWide at hv
    rw [ht] at hv
    cases v with
    | agg cs => simp only [Cell.okWide, ht] at hv; simp [Cell.ok, ht] at hv
    | _ => first | (simp [Value.cells] at he; done) | (simp [Value.cells] at he; simp [he])
  exact ⟨A, n, c, l, hvv, hs⟩

/-! ### what was there reads as it did -/
theorem trodAll_below {H : Type} {enc : TypeId × Value → H} (hl : laidOutB P = true) {W W' : World} (hb : Below W.heap.size W W') :
    ∀ (ts : List TypeId) (vs : List Value) (ds : List (DataW H)) (ps : List MemPlace), (∀ t ∈ ts, P.readableRec t = true ∧ t < P.types.size) → (∀ x ∈ ps, x.block < W.heap.size) →
      DataW.TrodAll enc P W 0 (fun _ => true) true ts vs ds ps → DataW.TrodAll enc P W' 0 (fun b => decide (b < W.heap.size)) true ts vs ds ps
  | [], [], [], ps, _, _, h => h
  | t :: ts, v :: vs, d :: ds, ps, hr, hlt, h => by
    obtain ⟨p, q, hd, hs, rfl⟩ := h
    have hrt := hr t (by simp)
    exact ⟨p, q, Below.trod hl hrt.1 hrt.2 hd hb fun x hx => hlt x (by simp [hx]), trodAll_below hl hb ts vs ds q (fun t ht => hr t (by simp [ht])) (fun x hx => hlt x (by simp [hx])) hs, rfl⟩
  | [], _ :: _, _, _, _, _, h => by simp [DataW.TrodAll] at h
  | [], [], _ :: _, _, _, _, h => by simp [DataW.TrodAll] at h
  | _ :: _, [], _, _, _, _, h => by simp [DataW.TrodAll] at h
  | _ :: _, _ :: _, [], _, _, _, h => by simp [DataW.TrodAll] at h

/-- THE LAST STEP: the law returns true and leaves alone what was there -/
theorem law_post {f : Func} {s : ChangeSpec} {apart fresh handsOn : Bool} {W W' : World} {args : Array Value} {H : Type} {enc : TypeId × Value → H} {ds gs : List (DataW H)} {before : List MemPlace} {tb : TypeId}
    (hl : laidOutB P = true) (hv : s.vars = []) (hrt : f.resultTypes = #[tb]) (hub : P.underlying tb = some .bool) (hread : ∀ t ∈ f.params.toList, P.readableRec t = true ∧ t < P.types.size)
    (hW : DataW.Whole enc P f.params.toList s.vars apart W args.toList ds gs before) (hfn : ∀ gs', gs' = [] → s.fn H (ds ++ gs') = { results := [.lit (.bool true)], args := ds }) (hb : Below W.heap.size W W') :
    s.post enc P f apart fresh handsOn false W args (.bool true) W' := by
  have hW' := hW
  obtain ⟨p, q, hA, hV, rfl, hfz, hnd⟩ := hW
  rw [hv] at hV
  obtain ⟨rfl, rfl⟩ := trodVars_none hV
  have hlt : ∀ x ∈ p, x.block < W.heap.size := fun x hx => hW'.lt x (by simpa using hx)
  refine ⟨ds, [], p ++ [], [], p, [], hW', ?_, ?_, ?_, ?_, fun h => by cases h⟩
  · rw [hfn [] rfl, hrt]
    exact trodAll_mk1 (shut_bool hub true)
  · rw [hfn [] rfl]
    exact trodAll_below hl hb _ _ _ _ hread hlt hA
  · rw [hv, hfn [] rfl]
    rfl
  · refine World.keptBut_mono (fun x hx => ⟨hx, .inr (.inl (by simpa using hx))⟩) (hb.frame (· ∈ p ++ []))
end
end Go.Proofs.Ytkdbedbefojieaa
