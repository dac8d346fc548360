/-
  More operations: make, min, max; a loop gone round once. Nothing here names a function of the program.
-/
import Derived.Test.YtkdbedbefojieaaStp
import Derived.Laws.MakeOwn
import Derived.LoopN
namespace Go.Proofs.Ytkdbedbefojieaa
set_option linter.unusedVariables false
set_option linter.unusedSimpArgs false
open Go.RowKit
set_option maxRecDepth 100000
/-! a loop gone round n times at the most -/
def CPn (P : Program) (X : Cx) (c : Code) (Q : Exit → AS → Prop) : Nat → AS → Prop
  | 0, _ => False
  | n + 1, s => CP P X c (thenQ (CPn P X c Q n) Q) s
theorem cpn_succ {P : Program} {X : Cx} {c : Code} {Q : Exit → AS → Prop} {n : Nat} {s : AS} (h : CP P X c (thenQ (CPn P X c Q n) Q) s) : CPn P X c Q (n + 1) s := h
theorem cp_rounds {P : Program} {X : Cx} {c : Code} {Q : Exit → AS → Prop} (n : Nat) {s : AS} (h : CPn P X c Q n s) : CP P X (.loop c) Q s := fun a w hs => by
  refine wp_loop_rounds n ?_
  induction n generalizing s a w with
  | zero => exact h.elim
  | succ n ih =>
    refine wp_mono (h a w hs) ?_
    rintro e a' w' ⟨s', h3, h4⟩
    cases e with
    | normal => exact ih h3 a' w' h4
    | _ => exact ⟨s', h3, h4⟩
theorem chunks_zrow (z : List ZC) : ∀ n, chunks z.length n (zrow z n) = List.replicate n (z.map fun c => AV.sc c.val)
  | 0 => rfl
  | n + 1 => by
    have h1 : (zrow z (n + 1)).take z.length = z.map fun c => AV.sc c.val := by
      rw [zrow, List.take_append_of_le_length (by simp)]; exact List.take_of_length_le (by simp)
    have h2 : (zrow z (n + 1)).drop z.length = zrow z n := by
      rw [zrow, List.drop_append_of_le_length (by simp), List.drop_of_length_le (by simp), List.nil_append]
    rw [chunks, h1, h2, chunks_zrow z n, List.replicate_succ]
section
variable {X : Cx} {s : AS} {ops : Array Oper} {rest : List Oper} {o : Oper} {Q : Exit → AS → Prop}
theorem ap_makeS {T e k : Nat} {x y : Operand} {kl kc : IntKind} {n : Nat} {i ie : TI} {z : List ZC} (hg : o.guard = none) (ho : o.op = .makeSlice T x y) (hx : aev s x = .sc (.int kl (n : Int))) (hy : aev s y = .sc (.int kc (n : Int))) (hT : tt[T]? = some i) (hk : i.kd = .sl e) (he : tt[e]? = some ie) (hz : ie.zero = some z)
    (hsz : ie.size = k) (hk0 : Nat.ble 1 k = true) (hby : Nat.ble ie.bytes 100000 = true) (hn : n ≤ 1000000)
    (K : AP Try.prog X ops Q rest (AS.put ⟨s.t, (newS s.b (.r e k (List.replicate n (z.map fun c => AV.sc c.val)))).2⟩ o.dst (.hd (newS s.b (.r e k (List.replicate n (z.map fun c => AV.sc c.val)))).1.1 (newS s.b (.r e k (List.replicate n (z.map fun c => AV.sc c.val)))).1.2))) : AP Try.prog X ops Q (o :: rest) s :=
  .run hg (fun X φ κ f a w h => by
    have hk0 := Nat.le_of_ble_eq_true hk0
    have hby := Nat.le_of_ble_eq_true hby
    obtain ⟨d, j, hd, hj, _, hjs, hjb, hzz⟩ := TI.parts (ty he)
    obtain ⟨zv, hzv, hzc, hzl, _⟩ := hzz z hz
    have hzk : z.length = k := by rw [hzl, hsz]
    have hzs : zv.cells.size = k := by rw [← Array.length_toList, hzc]; simpa using hzk
    have hrow : RC w φ κ X.R (zrow z n) ((Array.range (n * k)).map (fun i => zv.cells[i % zv.cells.size]!)).toList Ct.z := RC.of_at (by simp [zrow_length, hzk]) fun i b hi => by
      have hil : i < n * k := by have := (List.getElem?_eq_some_iff.1 hi).1; rwa [zrow_length, hzk] at this
      rw [zrow_at (by omega) n i (by rwa [hzk])] at hi
      injection hi with hi; subst hi
      refine ⟨_, ?_, .sc (ZC.one _)⟩
      have hm : i % z.length < zv.cells.toList.length := by rw [hzc]; simpa using Nat.mod_lt _ (by omega)
      simp only [Array.toList_map, Array.toList_range, List.getElem?_map, List.getElem?_range hil, Option.map_some, Option.some.injEq]
      rw [show zv.cells.size = z.length by omega]
      rw [getElem!_pos zv.cells (i % z.length) (by simpa using hm)]
      have : zv.cells.toList[i % z.length]'hm = (z[i % z.length]'(Nat.mod_lt _ (by omega))).val := by simp only [hzc, List.getElem_map]
      simpa using this
    have hone0 : ∀ v ∈ ((Array.range (n * k)).map (fun i => zv.cells[i % zv.cells.size]!)).toList, v.oneCell' = true := fun v hv => by
      obtain ⟨i, hi, rfl⟩ := List.mem_iff_getElem.1 hv
      have hil : i < n * k := by simpa using hi
      obtain ⟨v, hv1, hv2⟩ := hrow.at_ (i := i) (zrow_at (by omega) n i (by rwa [hzk]))
      rw [List.getElem?_eq_getElem hi] at hv1; injection hv1 with hv1
      rw [hv1]; have := RV.sc_inv hv2; rw [this]; exact ZC.one _
    have hleaf : ∀ x ∈ zrow z n, x.leaf = true := fun x hx => by
      obtain ⟨i, hi, rfl⟩ := List.mem_iff_getElem.1 hx
      have hil : i < n * z.length := by rwa [zrow_length] at hi
      have := zrow_at (z := z) (by omega) n i hil
      rw [List.getElem?_eq_getElem hi] at this; injection this with this
      rw [this]; rfl
    have hre := RE.chunks_ hk0 n hrow (by rw [zrow_length, hzk]) hone0 hleaf
    have e0 : chunks k n (zrow z n) = List.replicate n (z.map fun c => AV.sc c.val) := by rw [← hzk]; exact chunks_zrow z n
    rw [e0] at hre
    have hlr : (List.replicate n (z.map fun c => AV.sc c.val)).length = n := by simp
    have hsl := ty_sl hT hk
    have hx' := h.evc hx
    have hy' := h.evc hy
    have hrun : (execOp a.eval o).run Try.prog w = .ok (.value (.slice (some ⟨w.heap.size, 0, none⟩) n n)) (w.alloc (.cells (madeCells zv.cells (n * k)) e)) := by
      have hb : (j.bytes : Int) * (n : Int) ≤ 281474976710656 := by
        have h1 : j.bytes * n ≤ 100000 * 1000000 := Nat.mul_le_mul (by omega) hn
        have h2 : ((j.bytes * n : Nat) : Int) ≤ 281474976710656 := by omega
        rwa [Int.natCast_mul] at h2
      have hr := run_make (P := Try.prog) w T e j zv hsl hj hzv kl kc n n (by omega) (Int.le_refl _) hb (by omega)
      simp only [Int.toNat_natCast, hjs, hsz] at hr
      simp only [execOp, ho, hx', hy', Sem.run_bind, hr]; rfl
    generalize hcs : madeCells zv.cells (n * k) = cs at hrun
    have hcs' : ((Array.range (n * k)).map (fun i => zv.cells[i % zv.cells.size]!)).toList = cs.toList := by rw [← hcs]; rfl
    rw [hcs'] at hre
    have hcl : cs.size = n * k := by rw [← hcs]; exact size_madeCells _ _
    obtain ⟨φ', κ', f', e1, e2, e3, e4, e5⟩ := h.newS_ (w' := w.alloc (.cells cs e)) (B := .r e k (List.replicate n (z.map fun c => AV.sc c.val))) (g := fun x => (if x = w.heap.size then 1 else 0) + Ct.z x) (L' := Ct.z) none (some (.slice (some ⟨w.heap.size, 0, none⟩) n n)) (by simp) rfl rfl rfl
      (fun x hx _ => Below.heap_alloc w _ x hx)
      (fun φ' κ' j u a b c d => .r d (by
        have hkeep := RE.keep (w' := w.alloc (.cells cs e)) (fun x hx => Below.heap_alloc w _ x (h.blk (.inl hx))) (RE.any φ' κ' hre) (fun x hx => absurd rfl hx)
        have := RV.ow (e := e) (cap := n) (cur := cs) hkeep (heap_alloc_new w _) (by omega) (by unfold maxLen; omega) hcl (by rw [hlr]; exact List.take_of_length_le (by simp; omega)) fun _ => rfl
        rw [hlr] at this; exact this))
      (fun x hx => by simp only [Ct.z]; rw [if_neg (by omega)]; omega)
      (fun x hx => by simp only [Ct.z]; split <;> simp_all)
    exact ⟨_, _, φ', κ', f', hrun, e5.puts o.dst (.hd e4 rfl)⟩) K
theorem pq_min {x y : Operand} {tys : Array TypeId} {k k' : IntKind} {i j : Int} (ho : o.op = .call { callee := .builtin .min, args := #[x, y], argTypes := tys }) (hx : aev s x = .sc (.int k i)) (hy : aev s y = .sc (.int k' j)) : Pq Try.prog X s o (.sc (.int k (if j < i then j else i))) := .of_run fun X φ κ f a w h => by
  have h1 := h.evc hx
  have h2 := h.evc hy
  refine ⟨_, .sc rfl, fun w' _ => ?_⟩
  simp only [execOp, ho, resolve, invoke, builtin, Sem.run_bind, Sem.run_pure, Result.andThen_ok, List.map_toArray, List.map_cons, List.map_nil, h1, h2, Builtin.min_, List.foldlM_cons, List.foldlM_nil, Builtin.min2]
theorem pq_max {x y : Operand} {tys : Array TypeId} {k k' : IntKind} {i j : Int} (ho : o.op = .call { callee := .builtin .max, args := #[x, y], argTypes := tys }) (hx : aev s x = .sc (.int k i)) (hy : aev s y = .sc (.int k' j)) : Pq Try.prog X s o (.sc (.int k (if i < j then j else i))) := .of_run fun X φ κ f a w h => by
  have h1 := h.evc hx
  have h2 := h.evc hy
  refine ⟨_, .sc rfl, fun w' _ => ?_⟩
  simp only [execOp, ho, resolve, invoke, builtin, Sem.run_bind, Sem.run_pure, Result.andThen_ok, List.map_toArray, List.map_cons, List.map_nil, h1, h2, Builtin.max_, List.foldlM_cons, List.foldlM_nil, Builtin.max2]
/-! a call in a region that draws its order: it reads plain boxes, and tells something plain -/
theorem pvl_z {w : World} {φ : Fi} {κ : Ka} {R : Nat → Prop} : ∀ {l : List AV} {vs us : List Value} {S : Ct}, pvl l = some vs → RC w φ κ R l us S → us = vs ∧ S = Ct.z
  | [], vs, us, S, h, hr => by
    simp only [pvl, Option.some.injEq] at h; subst h
    cases hr; exact ⟨rfl, rfl⟩
  | a :: l, vs, us, S, h, hr => by
    cases a <;> first | (simp [pvl] at h; done) | skip
    simp only [pvl] at h
    split at h
    · rename_i us' hv hl
      injection h with h; subst h
      cases hr with
      | cons h1 h2 h3 =>
        obtain ⟨rfl, rfl⟩ := pvl_z hl h2
        cases h1
        exact ⟨rfl, funext fun x => by rw [h3]; simp [Ct.z]⟩
    · cases h
def plB : Bx → Bool
  | .c _ l => (pvl l).isSome
  | _ => false
theorem RXs.at_ {w : World} {R : Nat → Prop} : ∀ {bs : List Bx} {gs : List Nat} {S : Ct}, RXs w R bs gs S → bs.all plB = true → ∀ x, S x ≠ 0 → ∃ (i : Nat) (T : TypeId) (l : List AV) (vs : List Value), gs[i]? = some x ∧ bs[i]? = some (.c T l) ∧ pvl l = some vs ∧ w.heap[x]? = some (.cells vs.toArray T (0, 0))
  | _, _, _, .nil, _, x, hx => absurd rfl hx
  | _, _, _, .cons (g := g) (.c (T := T) (l := l) h1 h2 h3 h4 h5) hr hU, hp, x, hx => by
    simp only [List.all_cons, Bool.and_eq_true, plB] at hp
    obtain ⟨vs', hvs⟩ := Option.isSome_iff_exists.1 hp.1
    obtain ⟨rfl, rfl⟩ := pvl_z hvs h2
    have h6 := hU x
    rw [h5 x] at h6
    by_cases hg : x = g
    · subst hg
      exact ⟨0, T, l, _, rfl, rfl, hvs, h1⟩
    · rw [if_neg hg] at h6
      obtain ⟨i, T', l', vs2, a, b, c, d⟩ := RXs.at_ hr hp.2 x (by simp only [Ct.z] at h6; omega)
      exact ⟨i + 1, T', l', vs2, by simpa using a, by simpa using b, c, d⟩
theorem RXs.get {w : World} {R : Nat → Prop} : ∀ {bs : List Bx} {gs : List Nat} {S : Ct}, RXs w R bs gs S → ∀ {i g : Nat} {T : TypeId} {l : List AV} {vs : List Value}, gs[i]? = some g → bs[i]? = some (.c T l) → pvl l = some vs → w.heap[g]? = some (.cells vs.toArray T (0, 0))
  | _, _, _, .nil, i, g, T, l, vs, hg, _, _ => by simp at hg
  | _, _, _, .cons (.c h1 h2 h3 h4 h5) hr hU, 0, g, T, l, vs, hg, hb, hv => by
    simp at hg hb
    obtain ⟨rfl, rfl⟩ := hb
    subst hg
    obtain ⟨rfl, _⟩ := pvl_z hv h2
    exact h1
  | _, _, _, .cons _ hr hU, i + 1, g, T, l, vs, hg, hb, hv => RXs.get hr (i := i) (by simpa using hg) (by simpa using hb) hv
theorem pq_callB {P : Program} {fn : Nat} {fo : Operand} {cap : List AV} {xs : Array Operand} {tys : Array TypeId} {al : List AV} {r0 : AV} {v : Value} (ks : List (Nat × Nat)) {bs : List Bx} {b1 bf : List Sl} (ho : o.op = .call { callee := .value fo, args := xs, argTypes := tys }) (hfo : aev s fo = .fn fn cap) (hc : AC P fn al bs (fun r bs' => r = r0 ∧ bs' = bs))
    (hv1 : r0.pv = some v) (hnt : ntC al = true) (hpl : bs.all plB = true) (hp : PasC false ks [] s.b (xs.toList.map (aev s) ++ cap) al b1) (hout : Out b1 ks bs bf) : Pq P X s o r0 := by
  intro X φ κ f a w _ h
  have hfv := h.evs hfo
  obtain ⟨cvs, hcv, hcr⟩ : ∃ cvs : List Value, a.eval fo = .func (.func fn) #[] cvs.toArray ∧ RC w φ κ X.R cap cvs Ct.z := by
    generalize a.eval fo = v at hfv
    cases hfv with | fn h => exact ⟨_, rfl, h⟩
  refine ⟨v, (pv_rv hv1).1, fun w' hw' => ?_⟩
  have h' := h.below hw'
  have hcr' := RC.keep (w' := w') (fun x hx => hw'.block x (h.blk (.inl hx))) hcr fun x hx => absurd rfl hx
  obtain ⟨S1, f1, h1, hfin⟩ := SatW.pasC (t := s.t) (PasC.nobf bf hp) h' ((h'.evl xs.toList).append hcr' (U := Ct.z) fun _ => rfl)
  obtain ⟨X1, gs, Sb, f2, hX1, h2, h3, h4⟩ := SatW.out hout h1
  have hkl : ks.length = bs.length := hout.length
  have hgl := h2.length
  have hargs := hfin X1 f2 _ (fun i v => if v = 0 then gs[i]? else none) (fun _ _ => none) hX1 h3 (fun i k u g hi hg => by
    obtain ⟨g', h5, h6⟩ := h4 i k u hi
    rw [hg] at h6; injection h6 with e; subst e
    simp [h5])
  have hz := RC.nt hargs hnt
  subst hz
  have hcalls := hc.2 w' _ _ (lendR false X1 f2 bf.length) _ gs Ct.z Sb hargs (RXs.mono (fun x hx => .inl hx) h2) (fun i g hi => by simp [hi]) (fun i v hv => by
      by_cases hv0 : v = 0
      · rw [if_pos hv0]; exact List.getElem?_eq_none (by omega)
      · rw [if_neg hv0]) (fun _ _ => rfl) (fun x => by have := h3.one x; simp only [Ct.z] at this ⊢; omega) (fun x hx => (h3.own x (by simp only [Ct.z] at hx ⊢; omega)).1)
      (fun x hx => by
        rcases hx with hx | ⟨hx, _⟩
        · have h5 := h3.not_rd hx
          exact ⟨h3.blk (.inl hx), by simp only [Ct.z] at h5 ⊢; omega⟩
        · cases hx)
  have e0 : (xs.toList.map a.eval ++ cvs).toArray = xs.map a.eval ++ cvs.toArray := by cases xs; simp
  rw [e0] at hcalls
  have hrun := run_callv (P := P) (w := w') ho hcv hc.1
  unfold Oper.quietAt
  rw [hrun]
  refine ⟨rfl, hcalls.mono ?_⟩
  rintro e w'' ⟨u, r, bs', gs', Sr, Sb', φ', F, rfl, ⟨rfl, rfl⟩, hr, hrx, _, hgg, _, _, _, h9⟩
  refine ⟨by rw [(pv_rv (w := w) (φ := φ) (κ := κ) (R := X.R) hv1).2 hr], ?_⟩
  refine ⟨h9.os.trans hw'.os, h9.tape.trans hw'.tape, h9.output.trans hw'.output, Nat.le_trans hw'.size h9.size, fun x hx => ?_⟩
  have hx' := Nat.lt_of_lt_of_le hx hw'.size
  rw [← hw'.block x hx]
  by_cases hS : Sb x = 0
  · exact h9.block x hx' (by simp only [Ct.z]; omega)
  · obtain ⟨i, T, l, vs, a1, a2, a3, a4⟩ := h2.at_ hpl x hS
    rw [a4]
    exact hrx.get (hgg i x a1) a2 a3
end
theorem len_cons {α : Type} {b : List α} {n : Nat} (h : b.length = n + 1) : ∃ x t, b = x :: t ∧ t.length = n := by
  cases b with
  | nil => cases h
  | cons x t => exact ⟨x, t, rfl, Nat.succ.inj h⟩
end Go.Proofs.Ytkdbedbefojieaa
