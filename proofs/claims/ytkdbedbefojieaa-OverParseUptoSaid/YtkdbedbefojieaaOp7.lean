/-
  FUNCTIONS AS VALUES, arrays, nil slices, cells of elements stored, by abstract values. Nothing here names a function of the program.
-/
import Derived.Test.YtkdbedbefojieaaOp6
import Derived.Laws.StructEq
namespace Go.Proofs.Ytkdbedbefojieaa
set_option linter.unusedVariables false
set_option linter.unusedSimpArgs false
open Go.RowKit
set_option maxRecDepth 100000

section
variable {X : Cx} {φ φ' : Fi} {κ κ' : Ka} {f : Nat → Ct} {L L' : Ct} {s s' : AS} {a : Act} {w w' : World} {R : Nat → Prop} {ops : Array Oper} {rest : List Oper} {o : Oper} {av : AV} {Q : Exit → AS → Prop}
theorem pq_mkf {g : Nat} {caps : Array Operand} (ho : o.op = .makeFunc (.func g) #[] caps) : Pq Try.prog X s o (.fn g (caps.toList.map (aev s))) := .of_run fun X φ κ f a w h => by
  refine ⟨_, .fn (h.evl caps.toList), fun w' _ => ?_⟩
  have e : (caps.toList.map a.eval).toArray = caps.map a.eval := by cases caps; simp
  rw [e]
  simp only [execOp, ho, Instr.makeFunc]
  simp [go_sem]
/-- an array's value, built -/
theorem pq_buildA {T e n k : Nat} {parts : Array (Nat × Operand)} {i ie : TI} {z : List ZC} (ho : o.op = .build T parts) (hT : tt[T]? = some i) (hk : i.kd = .ar n e) (hz : i.zero = some z) (he : tt[e]? = some ie) (hsz : ie.size = k)
    (hkn : parts.toList.all (fun p => (aev s p.2).known && (aev s p.2).cells.length == k && Nat.ble (p.1 * k + k) z.length) = true) : Pq Try.prog X s o (.ag (bldA s k parts.toList (z.map fun c => .sc c.val))) := .of_run fun X φ κ f a w h => by
  obtain ⟨d, j, hd, hj, _, _, _, hzz⟩ := TI.parts (ty hT)
  obtain ⟨zv, hzv, hzc, hzl, hagg, _⟩ := hzz z hz
  have hu := ty_ar hT hk
  have hall : ∀ p ∈ parts.toList, (aev s p.2).known = true ∧ (aev s p.2).cells.length = k ∧ p.1 * k + k ≤ z.length := fun p hp => by
    have := List.all_eq_true.1 hkn p hp
    simp only [Bool.and_eq_true, beq_iff_eq] at this
    exact ⟨this.1.1, this.1.2, Nat.le_of_ble_eq_true this.2⟩
  have hz0 : RC w φ κ X.R (z.map fun c => AV.sc c.val) (z.map ZC.val) Ct.z := RC.of_at (by simp) fun i av hi => by
    simp only [List.getElem?_map, Option.map_eq_some_iff] at hi ⊢
    obtain ⟨c, hc, rfl⟩ := hi
    exact ⟨_, ⟨c, hc, rfl⟩, .sc (ZC.one c)⟩
  have hz1 : ∀ v ∈ z.map ZC.val, v.oneCell' = true := fun v hv => by
    obtain ⟨c, _, rfl⟩ := List.mem_map.1 hv; exact ZC.one c
  have hrc := bld_rc (k := k) parts.toList h hz0 fun p hp => (hall p hp).1
  have hon := bld_one (k := k) parts.toList h hz1 fun p hp => (hall p hp).1
  refine ⟨_, .ag hrc hon, fun w' _ => ?_⟩
  have hzr : (zeroValue T).run Try.prog w' = .ok zv w' := by simp [zeroValue, typeInfo, hj, hzv, go_sem]
  have hfill : Instr.fill (fun i => some (i * k, k)) zv.cells ((parts.map fun (i, x) => (i, a.eval x)).toList) = some ((parts.toList.map fun p => (p.1, a.eval p.2)).foldl (fun (l : List Value) (p : Nat × Value) => spl l (p.1 * k) p.2.cells.toList) (z.map ZC.val)).toArray := by
    rw [fill_spl]
    · rw [hzc]; simp
    · intro p hp
      simp only [Array.toList_map, List.mem_map] at hp
      obtain ⟨q, hq, rfl⟩ := hp
      obtain ⟨a1, a2, a3⟩ := hall q hq
      obtain ⟨hc1, _⟩ := (h.ev q.2).cells_ a1
      have := hc1.length
      simp at this
      have h4 : zv.cells.size = z.length := by rw [← Array.length_toList, hzc]; simp
      exact ⟨by show (a.eval q.2).cells.size = k; omega, by simp only; omega⟩
  simp only [execOp, ho, Instr.build, Sem.run_bind, hzr, Result.andThen_ok, run_underlying hu, ty_size he, hsz, hfill]; rfl
/-- an element of an array variable -/
theorem pq_index_ar {T e n : Nat} {x y : Operand} {b u off : Nat} {i ie : TI} {kk : IntKind} {j : Int} (ho : o.op = .indexAddr T x y) (hx : aev s x = .bp b u off) (hy : aev s y = .sc (.int kk j)) (hT : tt[T]? = some i) (hk : i.kd = .ar n e) (he : tt[e]? = some ie)
    (h0 : 0 ≤ j) (hj : j < n) : Pq Try.prog X s o (.bp b u (off + j.toNat * ie.size)) := .of_run fun X φ κ f a w h => by
  have h1 := h.evs hx
  have h2 := h.evc hy
  generalize hp : a.eval x = p at h1
  cases h1 with
  | @bp _ _ _ g hg =>
    refine ⟨_, .bp hg, fun w' _ => ?_⟩
    have hu := ty_ar hT hk
    have : (Instr.indexAt T (.pointer (some ⟨g, off, none⟩)) (.int kk j)).run Try.prog w' = .ok (.pointer (some ⟨g, off + j.toNat * ie.size, none⟩)) w' := by
      simp [Instr.indexAt, asIntOf, run_underlying hu, ty_size he, h0, hj, addr_mid, Instr.sureAddr, go_sem]
    simp only [execOp, ho, hp, h2, Sem.run_bind, this]; rfl
def nz (op : BinOp) (c : Bool) : Bool :=
  match op with
  | .eql => c
  | _ => !c
/-- a slice held against nil: which it is cannot be seen of an empty one -/
theorem run_eq_slice {P : Program} {T e : TypeId} (hT : P.underlying T = some (.slice e)) (p : Option Addr) (l c : Nat) (w : World) : (Op.equal T (.slice p l c) (.slice none 0 0)).run P w = .ok p.isNone w := run_equal_slice_nil w T e p l c hT
theorem ap_nilsl {op : BinOp} {T T' e k : TypeId} {x y : Operand} {s1 : List (List AV)} {i : TI} (hg : o.guard = none) (ho : o.op = .binOp op T x y T') (hx : aev s x = .sl none k s1) (hy : aev s y = .sc (.slice none 0 0)) (hT : tt[T]? = some i) (hk : i.kd = .sl e) (hop : op = .eql ∨ op = .neq)
    (K : ∀ c : Bool, (c = true → s1 = []) → AP Try.prog X ops Q rest (s.put o.dst (.sc (.bool (nz op c))))) : AP Try.prog X ops Q (o :: rest) s := by
  rintro a w ⟨X', φ, κ, f, hX, h⟩
  have h2 := h.evc hy
  have hv := h.evs hx
  obtain ⟨A, c, hA, hc1, hc2, hc3⟩ := hv.sl_form
  have hnil : A.isNone = true → s1 = [] := fun hn => by
    have : A = none := by simpa using hn
    have := hc3 this
    exact List.eq_nil_of_length_eq_zero (by omega)
  have hrun : (execOp a.eval o).run Try.prog w = .ok (.value (.bool (nz op A.isNone))) w := by
    rcases hop with rfl | rfl <;> simp only [execOp, ho, hA, h2] <;> simp [eqGuard, binOp, run_eq_slice (ty_sl hT hk), nz, go_sem]
  refine wpList_plain hg fun K' hK' => ?_
  unfold Oper.wp
  rw [hrun]
  exact hK' _ _ (K A.isNone hnil _ _ ⟨X', φ, κ, f, hX, h.puts o.dst (.sc rfl)⟩)
/-- a cell of an element of one's own array -/
theorem RE.set_ {k : Nat} : ∀ {s1 : List (List AV)} {us : List Value} {S : Ct}, RE w φ κ R k s1 us S → ∀ {i off : Nat} {c : List AV} {old av : AV} {v : Value}, s1[i]? = some c → c[off]? = some old → old.tree = false → RV w φ κ R av v Ct.z → av.leaf = true → v.oneCell' = true →
    RE w φ κ R k (s1.set i (c.set off av)) (us.set (i * k + off) v) S
  | _, _, _, .nil, i, off, c, old, av, v, h, _, _, _, _, _ => by simp at h
  | _, _, _, .cons (us := us) (vs := vs) h1 hk o b cc, i, off, c, old, av, v, h, ho, ht, hr, hl, h1c => by
    have hset : ∀ {l : List AV} {us : List Value} {S : Ct}, RC w φ κ R l us S → (∀ x ∈ l, x.leaf = true) → ∀ {off : Nat}, l[off]? = some old → RC w φ κ R (l.set off av) (us.set off v) S := by
      intro l us S hrc hlf off ho
      induction l generalizing us S off with
      | nil => simp at ho
      | cons a l ih =>
        cases hrc with
        | cons a1 a2 a3 =>
          cases off with
          | zero =>
            simp at ho; subst ho
            have hz := a1.flz (by have := hlf a (by simp); cases a <;> first | rfl | (cases this; done)) ht
            subst hz
            exact .cons (S := Ct.z) hr a2 a3
          | succ off =>
            simp at ho
            exact .cons a1 (ih a2 (fun x hx => hlf x (List.mem_cons_of_mem _ hx)) ho) a3
    have hoff : off < k := by
      have h8 := h1.length
      cases i with
      | zero => simp at h; subst h; have := (List.getElem?_eq_some_iff.1 ho).1; omega
      | succ i =>
        simp at h
        obtain ⟨cs, T, hrc, hl', _⟩ := RE.at' b h
        have := hrc.length
        have := (List.getElem?_eq_some_iff.1 ho).1
        omega
    cases i with
    | zero =>
      simp at h; subst h
      simp only [List.set_cons_zero, Nat.zero_mul, Nat.zero_add]
      rw [List.set_append_left _ _ (by omega)]
      exact .cons (hset h1 o.2 ho) (by simpa using hk) ⟨fun u hu => (List.mem_or_eq_of_mem_set hu).elim (o.1 u) (fun e => e ▸ h1c), fun x hx => (List.mem_or_eq_of_mem_set hx).elim (o.2 x) (fun e => e ▸ hl)⟩ b cc
    | succ i =>
      simp at h
      simp only [List.set_cons_succ]
      rw [List.set_append_right _ _ (by rw [Nat.add_mul]; omega)]
      rw [show (i + 1) * k + off - us.length = i * k + off by rw [Nat.add_mul]; omega]
      exact .cons h1 hk o (RE.set_ b h ho ht hr hl h1c) cc
theorem ap_storeE {T e k : Nat} {x y : Operand} {b u i off : Nat} {s1 : List (List AV)} {c : List AV} {old : AV} {ti : TI} (hg : o.guard = none) (ho : o.op = .store T x y) (hx : aev s x = .ep b u k i off) (hs : s.b[b]? = some ⟨u, .r e k s1⟩) (hy : aev s y = av) (hl : av.leaf = true)
    (hT : tt[T]? = some ti) (hn : ti.size = 1) (hcl : s1[i]? = some c ∧ c[off]? = some old) (ht : old.tree = false)
    (K : AP Try.prog X ops Q rest (AS.put ⟨s.t, s.b.set b ⟨u, .r e k (s1.set i (c.set off av))⟩⟩ o.dst (.tu []))) : AP Try.prog X ops Q (o :: rest) s :=
  .runU hg (fun X φ κ f a w h => by
    obtain ⟨hc, hco⟩ := hcl
    have hyv := h.evs hy
    have h1c : (a.eval y).oneCell' = true := by
      generalize a.eval y = p at hyv
      cases hyv <;> first | assumption | rfl | (cases hl; done)
    have hcells : (a.eval y).cells.toList = [a.eval y] := by
      generalize a.eval y = p at h1c
      cases p <;> first | rfl | (cases h1c; done)
    obtain ⟨d, j, hd, hj, _, hjs, _⟩ := TI.parts (ty hT)
    have h1 := h.evs hx
    have h2 := h.sl b _ hs
    have hbl : b < s.b.length := (List.getElem?_eq_some_iff.1 hs).1
    have hown : ∀ x, f b x ≠ 0 → x < w.heap.size := fun x hx => h.blk (.inr ⟨b, hbl, hx⟩)
    have hone : ∀ x, f b x ≤ 1 := fun x => by have := sumF_le f x _ b hbl; have := h.one x; omega
    generalize hS0 : f b = S0 at h2 hown hone
    generalize hp : a.eval x = p at h1
    cases h1 with
    | @ep _ _ _ _ _ g n c' hκ =>
      cases h2 with
      | r hκ' hv =>
        rw [hκ] at hκ'; injection hκ' with hκ'; subst hκ'
        cases hv with
        | ne => simp at hc
        | @ow _ _ _ _ _ cur us S _ hre hh hle hm hsz htk hSx =>
          obtain ⟨cs, T0, hrc, hkl, hlf, hat⟩ := RE.at' hre hc
          have hil : i < s1.length := (List.getElem?_eq_some_iff.1 hc).1
          have hoff : off < k := by have := hrc.length; have := (List.getElem?_eq_some_iff.1 hco).1; omega
          have hgl : g < w.heap.size := (Array.getElem?_eq_some_iff.1 hh).1
          have hpos : i * k + off < s1.length * k := by
            have : (i + 1) * k ≤ s1.length * k := Nat.mul_le_mul_right k hil
            rw [Nat.add_mul] at this; omega
          have hpos2 : i * k + off < cur.size := by
            have : s1.length * k ≤ cur.size := by rw [hsz]; exact Nat.mul_le_mul_right k hle
            omega
          have hth : w.there g (i * k + off) 1 := fun j hj => by
            have : j = 0 := by omega
            subst this
            refine ⟨?_, by simp [World.frozen?, hh]⟩
            rw [cell_of_row w g _ cur e (0, 0) hh]
            simp; omega
          have hrun := run_storeAny (P := Try.prog) (T := T) (b := g) (off := i * k + off) (v := a.eval y) w (n := 1) (by rw [hj]; simp [hjs, hn]) (by rw [← Array.length_toList, hcells]; rfl) (by rw [hcells]; intro u hu; simp at hu; subst hu; exact h1c) hth
          have hrun' : (execOp a.eval o).run Try.prog w = .ok .skip (w.setCells g (i * k + off) [a.eval y]) := by
            simp only [execOp, ho, hp, Sem.run_bind, hrun, hcells]; rfl
          have hh' : (w.setCells g (i * k + off) [a.eval y]).heap[g]? = some (.cells (cur.setIfInBounds (i * k + off) (a.eval y)) e (0, 0)) := by
            simp [World.setCells, World.setCell, Array.getElem?_modify, hh]
          have hblkR : ∀ x, X.R x → (w.setCells g (i * k + off) [a.eval y]).heap[x]? = w.heap[x]? := fun x hx => by
            have h3 := h.not_rd hx
            have h4 := sumF_le f x _ b hbl
            rw [hS0] at h4
            have h5 := hSx x
            have hne : x ≠ g := by rintro rfl; simp at h5; omega
            exact heap_setCells_ne g _ _ w x hne
          have hblkS : ∀ x, S x ≠ 0 → (w.setCells g (i * k + off) [a.eval y]).heap[x]? = w.heap[x]? := fun x hx => by
            have h5 := hSx x
            have h6 := hone x
            have hne : x ≠ g := by rintro rfl; simp at h5; omega
            exact heap_setCells_ne g _ _ w x hne
          have hre2 := RE.keep hblkR (RE.set_ hre hc hco ht hyv hl h1c) hblkS
          refine ⟨_, φ, κ, updF f b (fun x => (if x = g then 1 else 0) + S x), hrun', SatW.puts ?_ o.dst (RV.tu RC.nil)⟩
          refine h.turn (w' := w.setCells g (i * k + off) [a.eval y]) hs (fun _ _ _ h => h) (fun _ _ _ h => h) (by rw [size_setCells]; exact Nat.le_refl _) (os_setCells' g _ _ w) (tape_setCells g _ _ w) (out_setCells g _ _ w) ?_ (.r hκ ?_) (g := fun x => (if x = g then 1 else 0) + S x) (L' := Ct.z) ?_ ?_ (Nat.le_refl _) (fun _ _ _ h => h) (fun _ _ _ h => h)
          · intro x hx h0
            rw [hS0] at h0
            have := hSx x
            have hne : x ≠ g := by rintro rfl; simp at this; omega
            exact heap_setCells_ne g _ _ w x hne
          · have := RV.ow (e := e) hre2 hh' (by simpa using hle) hm (by simpa using hsz) (by
              rw [Array.toList_setIfInBounds, List.take_set, List.length_set, htk]) (T := fun x => (if x = g then 1 else 0) + S x) fun _ => rfl
            simpa using this
          · intro x hx; rw [hS0]; have := hSx x; simp only [Ct.z]; omega
          · intro x hx; simp only [Ct.z]
            have h7 : S x = 0 := by
              by_cases h8 : S x = 0
              · exact h8
              · have := hown x (by rw [hSx]; omega); omega
            rw [h7]; split
            · omega
            · simp) K
end
/-! every order of a region, one by one -/
def exts (md : Region.Mode) (ops : Array Oper) : Nat → Array Bool → List (List Nat)
  | 0, _ => [[]]
  | n + 1, listed => match Region.ready md ops listed with
    | [] => [[]]
    | i :: rs => (i :: rs).flatMap fun i => (exts md ops n (listed.setIfInBounds i true)).map (i :: ·)
theorem go_mem (md : Region.Mode) (ops : Array Oper) : ∀ (n t : Nat) (listed : Array Bool), Region.linearise.go md ops n t listed [] ∈ exts md ops n listed
  | 0, t, listed => by simp [Region.linearise.go, exts]
  | n + 1, t, listed => by
    unfold Region.linearise.go exts
    show (match (Region.ready md ops listed)[t % (Region.ready md ops listed).length]? with
      | some i => Region.linearise.go md ops n (t / (Region.ready md ops listed).length) (listed.setIfInBounds i true) [i]
      | none => [].reverse) ∈ _
    generalize Region.ready md ops listed = rs
    cases hi : rs[t % rs.length]? with
    | none =>
      cases rs with
      | nil => simp
      | cons i rs =>
        have := List.getElem?_eq_none_iff.1 hi
        have h2 := Nat.mod_lt t (show 0 < (i :: rs).length by simp)
        omega
    | some i =>
      have hmem := List.mem_of_getElem? hi
      cases rs with
      | nil => simp at hi
      | cons j rs =>
        refine List.mem_flatMap.2 ⟨i, hmem, List.mem_map.2 ⟨_, go_mem md ops n (t / (j :: rs).length) (listed.setIfInBounds i true), ?_⟩⟩
        show _ = Region.linearise.go md ops n (t / (j :: rs).length) (listed.setIfInBounds i true) [i]
        rw [linearise_go_acc md ops n _ _ [i]]; rfl
theorem wpOps_of_list {P : Program} {ops : Array Oper} {Q : Exit → Act → World → Prop} : ∀ (p : List Nat) (a : Act) (w : World), wpList P ops Q (p.filterMap (fun i => ops[i]?)) a w → wpOps P ops Q p a w
  | [], _, _, h => h
  | i :: p, a, w, h => by
    simp only [wpOps]
    cases ho : ops[i]? with
    | none => simp only [List.filterMap_cons, ho] at h; exact wpOps_of_list p a w h
    | some o =>
      simp only [List.filterMap_cons, ho] at h
      unfold wpList at h
      simp only
      split at h
      · rename_i hw
        rw [if_pos hw]
        rcases h with h | h
        · exact .inl (Oper.wp_mono (fun a' w' => wpOps_of_list p a' w') h)
        · exact .inr h
      · rename_i hw
        rw [if_neg hw]
        exact wpOps_of_list p _ w h
section
variable {P : Program} {X : Cx} {s : AS} {Q : Exit → AS → Prop}
def AllP (P : Program) (X : Cx) (ops : Array Oper) (Q : Exit → AS → Prop) (s : AS) : List (List Nat) → Prop
  | [] => True
  | p :: L => AP P X ops Q (p.filterMap (fun i => ops[i]?)) s ∧ AllP P X ops Q s L
theorem AllP.mem {ops : Array Oper} : ∀ {L : List (List Nat)}, AllP P X ops Q s L → ∀ p ∈ L, AP P X ops Q (p.filterMap (fun i => ops[i]?)) s
  | [], _, p, hp => by cases hp
  | q :: L, h, p, hp => by
    rcases List.mem_cons.1 hp with rfl | hp
    · exact h.1
    · exact AllP.mem h.2 p hp
theorem cp_drawA {id : Nat} {l : List Oper} (L : List (List Nat)) (hm : P.follows .mixedOrders = true) (hL : exts .any l.toArray l.toArray.size (Array.replicate l.toArray.size false) = L)
    (h : AllP P X l.toArray Q s L) : CP P X (.region id l.toArray true) Q s := by
  refine fun a w hs => wp_region_draw fun t => ?_
  have hmem := go_mem .any l.toArray l.toArray.size t (Array.replicate l.toArray.size false)
  rw [hL] at hmem
  have hsch : Region.schedule (P.follows .mixedOrders) l.toArray t = Region.linearise.go .any l.toArray l.toArray.size t (Array.replicate l.toArray.size false) [] := by
    unfold Region.schedule Region.linearise
    rw [hm]; rfl
  rw [hsch]
  obtain ⟨X', φ, κ, f, hX, hs⟩ := hs
  exact wpOps_of_list _ _ _ (AllP.mem h _ hmem a _ ⟨X', φ, κ, f, hX, hs.world (w' := { w with drawn := w.drawn + 1 }) rfl rfl rfl rfl⟩)
theorem cp_drwA {id : Nat} {l : List Oper} {y : Code} (L : List (List Nat)) (hm : P.follows .mixedOrders = true) (hL : exts .any l.toArray l.toArray.size (Array.replicate l.toArray.size false) = L)
    (h : ∀ Q', (∀ s', CP P X y Q s' → Q' .normal s') → AllP P X l.toArray Q' s L) : CP P X (.seq (.region id l.toArray true) y) Q s := by
  refine cp_seq fun a w hs => wp_region_draw fun t => ?_
  have hmem := go_mem .any l.toArray l.toArray.size t (Array.replicate l.toArray.size false)
  rw [hL] at hmem
  have hsch : Region.schedule (P.follows .mixedOrders) l.toArray t = Region.linearise.go .any l.toArray l.toArray.size t (Array.replicate l.toArray.size false) [] := by
    unfold Region.schedule Region.linearise
    rw [hm]; rfl
  rw [hsch]
  obtain ⟨X', φ, κ, f, hX, hs⟩ := hs
  exact wpOps_of_list _ _ _ (AllP.mem (h (thenQ (CP P X y Q) Q) fun _ h => h) _ hmem a _ ⟨X', φ, κ, f, hX, hs.world (w' := { w with drawn := w.drawn + 1 }) rfl rfl rfl rfl⟩)
end

/-! calls whose result is known, without boxes -/
mutual
def AV.nb : AV → Bool
  | .sc _ => true
  | .sl _ _ _ => true
  | .ag l => nbC l
  | .tu l => nbC l
  | _ => false
def nbC : List AV → Bool
  | [] => true
  | a :: l => a.nb && nbC l
end
mutual
theorem RnV.of_nb {ks : List (Nat × Nat)} : ∀ {a : AV}, a.nb = true → RnV ks a a
  | .sc _, _ => .leaf rfl
  | .sl _ _ _, _ => .leaf rfl
  | .ag l, h => .ag (RnC.of_nb (by simpa [AV.nb] using h))
  | .tu l, h => .tu (RnC.of_nb (by simpa [AV.nb] using h))
theorem RnC.of_nb {ks : List (Nat × Nat)} : ∀ {l : List AV}, nbC l = true → RnC ks l l
  | [], _ => .nil
  | a :: l, h => by
    simp only [nbC, Bool.and_eq_true] at h
    exact .cons (RnV.of_nb h.1) (RnC.of_nb h.2)
end
def AV.fl1b : AV → Bool
  | .ag l => l.all AV.fl
  | a => a.fl
def AV.fl2b : AV → Bool
  | .tu l => l.all AV.fl1b
  | a => a.fl1b
theorem AV.fl1_of {a : AV} (h : a.fl1b = true) : a.fl1 := by
  cases a <;> first | exact h | (intro x hx; exact List.all_eq_true.1 h x hx)
theorem AV.fl2_of : ∀ {a : AV}, a.fl2b = true → a.fl2
  | .tu _, h => fun x hx => AV.fl1_of (List.all_eq_true.1 h x hx)
  | .ag l, h => AV.fl1_of (a := .ag l) h
  | .sc _, h => h
  | .sl _ _ _, h => h
  | .bp _ _ _, h => h
  | .hd _ _, h => h
  | .ep _ _ _ _ _, h => h
  | .rp _ _ _ _, h => h
  | .gd _ _, h => h
  | .fs _ _, h => h
  | .fn _ _, h => h
  | .hf _ _, h => h
  | .sb _ _ _ _, h => h
  | .de, h => h
theorem fl1_all {l : List AV} (h : l.all AV.fl1b = true) : ∀ x ∈ l, x.fl1 := fun x hx => AV.fl1_of (List.all_eq_true.1 h x hx)
section
variable {P : Program} {X : Cx} {s : AS} {ops : Array Oper} {rest : List Oper} {o : Oper} {Q : Exit → AS → Prop}
/-- a call; what is handed over is readable, moved, or a box of ks; n: boxes that it makes -/
theorem ap_callB (n : Nat) {fn : Nat} {fo : Operand} {cap : List AV} {xs : Array Operand} {tys : Array TypeId} {al : List AV} {r r1 : AV} (ks : List (Nat × Nat)) {bs bs2 : List Bx} {b1 bf b3 : List Sl}
    (hg : o.guard = none) (ho : o.op = .call { callee := .value fo, args := xs, argTypes := tys }) (hfo : aev s fo = .fn fn cap) (hc : AC P fn al bs (fun v bs' => v = r ∧ bs' = bs2))
    (hp : PasC false ks [] s.b (xs.toList.map (aev s) ++ cap) al b1) (hout : Out b1 ks bs bf) (hl : Nat.beq bs2.length (ks.length + n) = true) (hbk : Bk (plc n bf).2 (ks ++ (plc n bf).1) bs2 b3) (hrn : RnV (ks ++ (plc n bf).1) r r1) (hfl : r1.fl2b = true)
    (K : AP P X ops Q rest (AS.put ⟨s.t, (opnR r1 b3).2⟩ o.dst (opnR r1 b3).1)) : AP P X ops Q (o :: rest) s :=
  ap_call false hg ho hfo hc (PasC.nobf bf hp) hout (fun h => by cases h)
    (by rintro r bs' ⟨rfl, rfl⟩; exact ⟨n, r1, b3, Nat.eq_of_beq_eq_true hl, hbk, hrn, AV.fl2_of hfl, K⟩)
/-- .. of no boxes -/
theorem ap_callX {fn : Nat} {fo : Operand} {cap : List AV} {xs : Array Operand} {tys : Array TypeId} {al : List AV} {r : AV} {bf : List Sl}
    (hg : o.guard = none) (ho : o.op = .call { callee := .value fo, args := xs, argTypes := tys }) (hfo : aev s fo = .fn fn cap) (hc : AC P fn al [] (fun v bs' => v = r ∧ bs' = []))
    (hp : PasC false [] [] s.b (xs.toList.map (aev s) ++ cap) al bf) (hnb : r.nb = true) (hfl : r.fl2b = true)
    (K : AP P X ops Q rest (AS.put ⟨s.t, (opnR r bf).2⟩ o.dst (opnR r bf).1)) : AP P X ops Q (o :: rest) s :=
  ap_callB 0 [] hg ho hfo hc hp .nil rfl .nil (RnV.of_nb hnb) hfl K
/-- a call that is lent what it reads, and is given nothing -/
theorem ap_callL {fn : Nat} {fo : Operand} {cap : List AV} {xs : Array Operand} {tys : Array TypeId} {al : List AV} {r : AV}
    (hg : o.guard = none) (ho : o.op = .call { callee := .value fo, args := xs, argTypes := tys }) (hfo : aev s fo = .fn fn cap) (hc : AC P fn al [] (fun v bs' => v = r ∧ bs' = []))
    (hp : PasC true [] s.b s.b (xs.toList.map (aev s) ++ cap) al s.b) (hnr : NR r) (hnb : r.nb = true) (hfl : r.fl2b = true)
    (K : AP P X ops Q rest (AS.put ⟨s.t, (opnR r s.b).2⟩ o.dst (opnR r s.b).1)) : AP P X ops Q (o :: rest) s :=
  ap_call true (ks := []) hg ho hfo hc hp .nil (by rintro _ r bs' ⟨rfl, rfl⟩; exact ⟨hnr, by simp⟩)
    (by rintro r bs' ⟨rfl, rfl⟩; exact ⟨0, r, s.b, rfl, .nil, RnV.of_nb hnb, AV.fl2_of hfl, K⟩)
/-- what it tells is one of several -/
theorem ap_callE {fn : Nat} {fo : Operand} {cap : List AV} {xs : Array Operand} {tys : Array TypeId} {al : List AV} {ι : Type} {R : ι → AV} {p : ι → Prop} {bf : List Sl}
    (hg : o.guard = none) (ho : o.op = .call { callee := .value fo, args := xs, argTypes := tys }) (hfo : aev s fo = .fn fn cap) (hc : AC P fn al [] (fun v bs' => (∃ i, p i ∧ v = R i) ∧ bs' = []))
    (hp : PasC false [] [] s.b (xs.toList.map (aev s) ++ cap) al bf) (hnb : ∀ i, (R i).nb = true) (hfl : ∀ i, (R i).fl2b = true)
    (K : ∀ i, p i → AP P X ops Q rest (AS.put ⟨s.t, (opnR (R i) bf).2⟩ o.dst (opnR (R i) bf).1)) : AP P X ops Q (o :: rest) s :=
  ap_call false (ks := []) hg ho hfo hc (PasC.nobf bf hp) .nil (fun h => by cases h)
    (by rintro r bs' ⟨⟨i, hi, rfl⟩, rfl⟩; exact ⟨0, R i, bf, rfl, .nil, RnV.of_nb (hnb i), AV.fl2_of (hfl i), K i hi⟩)
end

/-! slices over a variable's cells -/
section
variable {X : Cx} {s : AS} {o : Oper}
theorem pq_index_sb {T e : Nat} {x y : Operand} {b u k n : Nat} {i ie : TI} {kk : IntKind} {j : Int} (ho : o.op = .indexAddr T x y) (hx : aev s x = .sb b u k n) (hy : aev s y = .sc (.int kk j)) (hT : tt[T]? = some i) (hk : i.kd = .sl e) (he : tt[e]? = some ie) (hsz : ie.size = k)
    (h0 : 0 ≤ j) (hj : j < n) : Pq Try.prog X s o (.bp b u (j.toNat * k)) := .of_run fun X φ κ f a w h => by
  have h1 := h.evs hx
  have h2 := h.evc hy
  generalize hv : a.eval x = v at h1
  cases h1 with
  | @sb _ _ _ _ g hφ _ =>
    refine ⟨_, .bp hφ, fun w' _ => ?_⟩
    have := run_index (g := g) (off := 0) (n := n) (c := n) (k := kk) hT hk he h0 hj w'
    simp only [execOp, ho, hv, h2, Sem.run_bind, this, hsz]
    simp [go_sem]
theorem pq_len_sb {T e : Nat} {x : Operand} {b u k n : Nat} {i : TI} (ho : o.op = .call { callee := .builtin .len, args := #[x], argTypes := #[T] }) (hx : aev s x = .sb b u k n) (hT : tt[T]? = some i) (hk : i.kd = .sl e) : Pq Try.prog X s o (.sc (.int .i64 n)) := .of_run fun X φ κ f a w h => by
  have h1 := h.evs hx
  generalize hv : a.eval x = v at h1
  cases h1 with
  | sb hφ _ => exact ⟨_, .sc rfl, fun w' _ => run_len (ty := 0) ho fun ty => by rw [hv]; exact len_ty (tys := #[T]) hT hk ty w'⟩
end
/-! structs of plain cells held against each other -/
def scs : List AV → Option (List Value)
  | [] => some []
  | .sc v :: l => (scs l).map (v :: ·)
  | _ => none
theorem RC.scs {w : World} {φ : Fi} {κ : Ka} {R : Nat → Prop} : ∀ {l : List AV} {us vs : List Value} {S : Ct}, RC w φ κ R l us S → scs l = some vs → us = vs
  | [], _, vs, _, h, hs => by cases h; simpa [Go.Proofs.Ytkdbedbefojieaa.scs] using hs
  | .sc v :: l, _, vs, _, h, hs => by
    cases h with
    | cons h1 h2 _ =>
      simp only [Go.Proofs.Ytkdbedbefojieaa.scs, Option.map_eq_some_iff] at hs
      obtain ⟨vs', h3, rfl⟩ := hs
      rw [RV.sc_inv h1, RC.scs h2 h3]
theorem pq_eqAg {X : Cx} {s : AS} {o : Oper} {op : BinOp} {T T' : TypeId} {x y : Operand} {l l' : List AV} {vs us : List Value} {e r : Bool} (ho : o.op = .binOp op T x y T') (hx : aev s x = .ag l) (hy : aev s y = .ag l') (hl : scs l = some vs) (hl' : scs l' = some us)
    (hgd : Try.prog.eqGuardType Try.prog.depth T = false) (hrun : ∀ w, (Op.equal T (.agg vs.toArray) (.agg us.toArray)).run Try.prog w = .ok e w) (hr : nilB op e = some r) : Pq Try.prog X s o (.sc (.bool r)) := .of_run fun X φ κ f a w h => by
  have h1 := h.evs hx
  have h2 := h.evs hy
  generalize hp : a.eval x = p at h1
  generalize hq : a.eval y = q at h2
  cases h1 with
  | ag a1 _ =>
    cases h2 with
    | ag a2 _ =>
      rw [RC.scs a1 hl] at hp
      rw [RC.scs a2 hl'] at hq
      refine ⟨_, .sc rfl, fun w' _ => ?_⟩
      have hg2 : ∀ op, (eqGuard op T x y (.agg vs.toArray) (.agg us.toArray)).run Try.prog w' = .ok () w' := fun op => by
        unfold eqGuard
        cases op <;> simp [hgd, go_sem, program, Sem.run, Sem.run_bind]
      unfold nilB at hr
      cases op <;> simp only [Option.some.injEq, reduceCtorEq] at hr <;> subst hr <;> simp only [execOp, ho, hp, hq, Sem.run_bind, hg2, Result.andThen_ok, binOp, hrun, Sem.run_pure]

/-! one's own array, full, and append onto it -/
section
variable {X : Cx} {φ φ' : Fi} {κ κ' : Ka} {f : Nat → Ct} {L L' : Ct} {s s' : AS} {a : Act} {w w' : World} {R : Nat → Prop} {ops : Array Oper} {rest : List Oper} {o : Oper} {Q : Exit → AS → Prop}
theorem pq_slice_hf {T e k b u e' : Nat} {x hi mx : Operand} {s1 : List (List AV)} {i ie : TI} (ho : o.op = .slice T x none (some hi) (some mx)) (hx : aev s x = .hd b u) (hs : s.b[b]? = some ⟨u, .r e' k s1⟩) (hT : tt[T]? = some i) (hk : i.kd = .sl e) (he : tt[e]? = some ie)
    (hhi : Bd s (some hi) 0 s1.length) (hmx : Bd s (some mx) 0 s1.length) : Pq Try.prog X s o (.hf b u) := .of_run fun X φ κ f a w h => by
  obtain ⟨A, c, hA, hc1, hc2, hc3⟩ := (h.hdv hx hs).sl_form
  have h1 := h.evs hx
  rw [hA] at h1
  have hκ : κ b u = some (.slice A s1.length c) := by cases h1 with | hd h _ => exact h
  have some_ : ∀ {y : Operand} {d : Nat}, Bd s (some y) 0 d → ∃ k, (some y).map a.eval = some (.int k d) := fun hb => by
    cases hb with
    | int hx => exact ⟨_, by rw [Option.map_some, h.evc hx]⟩
    | lit hx hz => subst hz; exact ⟨_, by rw [Option.map_some, h.evc hx]⟩
  have hb := fun w => run_bounds (n := s1.length) (c := c) (l := 0) (h := s1.length) (m := s1.length) (lo := none) (hi := (some hi).map a.eval) (mx := (some mx).map a.eval) (.inl ⟨rfl, rfl⟩) (.inr (some_ hhi)) (.inr (some_ hmx)) (Nat.zero_le _) (Nat.le_refl _) hc1 w
  refine ⟨_, .hf hκ, fun w' _ => ?_⟩
  have := run_slice (A := A) (n := s1.length) (c := c) (l := 0) (h := s1.length) (m := s1.length) (lo := none) (hi := (some hi).map a.eval) (mx := (some mx).map a.eval) hT hk he hb w'
  have e : (if s1.length = 0 then A else A.map (·.add (0 * ie.size))) = A := by
    split
    · rfl
    · cases A <;> simp [Addr.add]
  rw [e] at this
  simp only [execOp, ho, hA, Option.map_none, Sem.run_bind, this]; rfl
theorem run_append_hf {T e k : Nat} {i ie : TI} {s1 s2 : List (List AV)} {A : Option Addr} {c : Nat} {sv : Value} {S1 S2 : Ct} {us2 : List Value} (hT : tt[T]? = some i) (hk : i.kd = .sl e) (he : tt[e]? = some ie) (hz : ie.zero.isSome = true) (hsz : ie.size = k) (hk0 : 0 < k)
    (hv : RV w φ κ R (.sl (some e) k s1) (.slice A s1.length c) S1) (h2 : RE w φ κ R k s2 us2 S2) (hsv : (sv = .slice none 0 0 ∧ us2 = []) ∨ ∃ A c, sv = .slice (some A) s2.length c ∧ ∀ j u, us2[j]? = some u → w.cell? (A.add j) = some u)
    (hR : ∀ x, R x → x < w.heap.size ∧ S1 x = 0 ∧ S2 x = 0) (hS : ∀ x, S1 x + S2 x ≤ 1) (hSw : ∀ x, S1 x + S2 x ≠ 0 → x < w.heap.size) (hlen : s1.length + s2.length ≤ 1000000000) (hby : ie.bytes ≤ 100000) (hm : 0 < s2.length) (ty : TypeId) :
    ∃ v' w' S', (Builtin.append_ #[T, T] ty #[.slice A s1.length s1.length, sv]).run Try.prog w = .ok v' w' ∧ (∀ φ' κ', RV w' φ' κ' R (.sl (some e) k (s1 ++ s2)) v' S') ∧ (∀ x, x < w.heap.size → S1 x + S2 x = 0 → w'.heap[x]? = w.heap[x]?) ∧
      w.heap.size ≤ w'.heap.size ∧ w'.os = w.os ∧ w'.tape = w.tape ∧ w'.output = w.output ∧ (∀ x, x < w.heap.size → S' x ≤ S1 x + S2 x) ∧ (∀ x, w.heap.size ≤ x → S' x ≤ 1 ∧ (S' x ≠ 0 → x < w'.heap.size)) := by
  obtain ⟨d, j, hd, hj, _, hjs, hjb, hzz⟩ := TI.parts (Go.Proofs.Ytkdbedbefojieaa.ty he)
  obtain ⟨z, hz'⟩ := Option.isSome_iff_exists.1 hz
  obtain ⟨zv, hzv, hzc, hzl, _⟩ := hzz z hz'
  have hsl := ty_sl hT hk
  have hzs : zv.cells.size = k := by rw [← Array.length_toList, hzc]; simp [hzl, hsz]
  have hl2 := h2.length
  cases hA : A with
  | none =>
    subst hA
    generalize hnn : s1.length = nn at hv
    cases hv with
    | ni =>
      have := run_append_rv (w := w) (φ := φ) (κ := κ) (R := R) (v := .slice none 0 0) (S1 := Ct.z) hT hk he hz hsz hk0 (.ni (k := k)) h2 hsv (fun x hx => ⟨(hR x hx).1, rfl, (hR x hx).2.2⟩) hS hSw hlen hby ty
      simpa using this
  | some ad =>
    subst hA
    have hrow : ∃ us1 S3, RE w φ κ R k s1 us1 S3 ∧ (∀ x, S3 x ≤ S1 x) ∧ ∀ j u, us1[j]? = some u → w.cell? (ad.add j) = some u := by
      generalize hnn : s1.length = nn at hv
      cases hv with
      | ne => exact ⟨[], Ct.z, .nil, fun _ => Nat.le_refl _, fun j u hj => by simp at hj⟩
      | @ow _ _ _ g cap cur us S _ hre hh hle hmx hsz' htk hSx =>
        refine ⟨us, S, hre, fun x => by rw [hSx]; omega, fun j u hj => ?_⟩
        rw [addr_mid, cell_of_row w g (0 + j) cur e (0, 0) hh]
        rw [← htk, List.getElem?_take] at hj
        split at hj
        · simpa using hj
        · cases hj
    obtain ⟨us1, S3, hre1, hS3, hcell1⟩ := hrow
    rcases hsv with ⟨rfl, rfl⟩ | ⟨A2, c2, rfl, hcell⟩
    · have h9 : s2.length * k = 0 := by simpa using hl2.symm
      have : 0 < s2.length * k := Nat.mul_pos hm hk0
      omega
    · obtain ⟨v', w', hrun, ho', hg⟩ := run_append_arg_grows (P := Try.prog) w T ty e j zv k ie.bytes hsl hj hzv (by rw [hjs, hsz]) hjb hzs hk0 ad s1.length s1.length us1 hre1.length hcell1 A2 s2.length c2 us2 hl2
        hcell (by omega) (by unfold maxLen; omega) (by
          have : (s1.length + s2.length) * ie.bytes ≤ 1000000000 * 100000 := Nat.mul_le_mul hlen hby
          omega)
      have hkeepR : ∀ x, R x → w'.heap[x]? = w.heap[x]? := fun x hx => hg.block x (hR x hx).1 (by simp)
      have hkS : ∀ x, S3 x + S2 x ≠ 0 → w'.heap[x]? = w.heap[x]? := fun x hx => hg.block x (hSw x (by have := hS3 x; omega)) (by simp)
      have hre2 := RE.append (RE.keep hkeepR hre1 fun x hx => hkS x (by omega)) (RE.keep hkeepR h2 fun x hx => hkS x (by omega)) (U := fun x => S3 x + S2 x) fun x => rfl
      rcases ho'.2 with ⟨rfl, h0⟩ | ⟨g, cap, cur, rfl, hgl, hh, hle', hmx', hsz', htk⟩
      · omega
      · have hgw' : g < w'.heap.size := (Array.getElem?_eq_some_iff.1 hh).1
        refine ⟨_, w', fun x => (if x = g then 1 else 0) + (S3 x + S2 x), hrun, fun φ' κ' => ?_, fun x hx h0 => hg.block x hx (by simp), hg.size, hg.os, hg.tape, hg.output, fun x hx => ?_, fun x hx => ?_⟩
        · have := RV.ow (e := e) (RE.any φ' κ' hre2) hh (by rw [List.length_append]; exact hle') hmx' hsz' (by rw [List.length_append]; exact htk) (T := fun x => (if x = g then 1 else 0) + (S3 x + S2 x)) fun _ => rfl
          rw [List.length_append] at this; exact this
        · dsimp only; rw [if_neg (by omega)]; have := hS3 x; omega
        · dsimp only
          have h5 : S3 x + S2 x = 0 := by
            by_cases h6 : S3 x + S2 x = 0
            · exact h6
            · have := hSw x (by have := hS3 x; omega); omega
          rw [h5]
          split
          · rename_i e; subst e; exact ⟨by omega, fun _ => hgw'⟩
          · simp
theorem ap_appendH {T e k b u : Nat} {x y : Operand} {s1 : List (List AV)} {i ie : TI} {b1 : List Sl} {s2 : List (List AV)} (hg : o.guard = none) (ho : o.op = .call { callee := .builtin .append, args := #[x, y], argTypes := #[T, T] }) (hx : aev s x = .hf b u) (hs : s.b[b]? = some ⟨u, .r e k s1⟩)
    (hT : tt[T]? = some i) (hk : i.kd = .sl e) (he : tt[e]? = some ie) (hz : ie.zero.isSome = true) (hsz : ie.size = k) (hk0 : Nat.ble 1 k = true) (hby : Nat.ble ie.bytes 100000 = true) (hlen : s1.length + s2.length ≤ 1000000000) (hm : 0 < s2.length)
    (hy : (aev s y = .sl none k s2 ∧ b1 = s.b) ∨ ∃ b2 u2, aev s y = .hd b2 u2 ∧ s.b[b2]? = some ⟨u2, .r e k s2⟩ ∧ Nat.beq b2 b = false ∧ b1 = s.b.set b2 ⟨u2, .x⟩)
    (K : AP Try.prog X ops Q rest (AS.put ⟨s.t, b1.set b ⟨u + 1, .r e k (s1 ++ s2)⟩⟩ o.dst (.hd b (u + 1)))) : AP Try.prog X ops Q (o :: rest) s :=
  .run hg (fun X φ κ f a w h => by
    have hk0 := Nat.le_of_ble_eq_true hk0
    have hby := Nat.le_of_ble_eq_true hby
    have hbl : b < s.b.length := (List.getElem?_eq_some_iff.1 hs).1
    obtain ⟨A, c, hκ, hva, hv⟩ : ∃ A c, κ b u = some (.slice A s1.length c) ∧ a.eval x = .slice A s1.length s1.length ∧ RV w φ κ X.R (.sl (some e) k s1) (.slice A s1.length c) (f b) := by
      have h1 := h.evs hx
      have h2 := h.sl b _ hs
      generalize a.eval x = p at h1
      cases h1 with
      | hf hκ =>
        cases h2 with
        | r hκ' hv =>
          rw [hκ] at hκ'; injection hκ' with e; subst e
          obtain ⟨A', c', e2, _⟩ := hv.sl_form
          injection e2 with e3 e4 e5
          subst e3 e4 e5
          exact ⟨_, _, hκ, rfl, hv⟩
    have hsrc : ∃ f1 S2 us2, SatW X φ κ f1 S2 ⟨s.t, b1⟩ a w ∧ b1[b]? = some ⟨u, .r e k s1⟩ ∧ f1 b = f b ∧ RE w φ κ X.R k s2 us2 S2 ∧ ((a.eval y = .slice none 0 0 ∧ us2 = []) ∨ ∃ A c, a.eval y = .slice (some A) s2.length c ∧ ∀ j u, us2[j]? = some u → w.cell? (A.add j) = some u) := by
      rcases hy with ⟨hy, rfl⟩ | ⟨b2, u2, hy, hs2, hne, rfl⟩
      · have h1 := h.evs hy
        refine ⟨f, Ct.z, ?_⟩
        generalize a.eval y = p at h1
        cases h1 with
        | ni => exact ⟨[], h, hs, rfl, .nil, .inl ⟨rfl, rfl⟩⟩
        | ne => exact ⟨[], h, hs, rfl, .nil, .inr ⟨_, _, rfl, fun j u hj => by simp at hj⟩⟩
        | ro hre _ _ _ hc => exact ⟨_, h, hs, rfl, hre, .inr ⟨_, _, rfl, fun j u hj => by rw [addr_mid]; exact hc j u hj⟩⟩
      · have hne := Nat.ne_of_beq_eq_false hne
        have h1 := h.hdv hy hs2
        obtain ⟨_, ht⟩ := h.take hs2 .x fun _ _ => .x
        have hb1 : (s.b.set b2 ⟨u2, .x⟩)[b]? = some ⟨u, .r e k s1⟩ := by rw [List.getElem?_set_ne hne]; exact hs
        have hf1 : updF f b2 Ct.z b = f b := by simp [updF, Ne.symm hne]
        generalize hp : a.eval y = p at h1
        generalize hF : f b2 = F at h1 ht
        cases h1 with
        | ni => exact ⟨_, Ct.z, [], ht.drop fun x => by simp [Ct.z], hb1, hf1, .nil, .inl ⟨rfl, rfl⟩⟩
        | ne => exact ⟨_, Ct.z, [], ht.drop fun x => by simp [Ct.z], hb1, hf1, .nil, .inr ⟨_, _, rfl, fun j u hj => by simp at hj⟩⟩
        | @ow _ _ _ g cap cur us S _ hre hh hle hm hsz' htk hSx =>
          refine ⟨_, S, us, ht.drop fun x => by (try dsimp only); rw [hSx]; simp only [Ct.z]; omega, hb1, hf1, hre, .inr ⟨⟨g, 0, none⟩, cap, rfl, fun j u hj => ?_⟩⟩
          rw [addr_mid, cell_of_row w g (0 + j) cur e (0, 0) hh]
          rw [← htk, List.getElem?_take] at hj
          split at hj
          · simpa using hj
          · cases hj
    obtain ⟨f1, S2, us2, h1, hb1, hf1, hre2, hsv⟩ := hsrc
    have hsum := fun x => sumF_le f1 x b1.length b (List.getElem?_eq_some_iff.1 hb1).1
    obtain ⟨v', w', S', hrun, hrv, hblk, hsz', hos, htp, hou, hS1, hS2⟩ := run_append_hf (R := X.R) hT hk he hz hsz hk0 hv hre2 hsv (fun x hx => by
        have a1 := h1.not_rd hx
        have a2 := hsum x
        rw [hf1] at a2
        exact ⟨h.blk (.inl hx), by dsimp only at a1; omega, by dsimp only at a1; omega⟩) (fun x => by
        have a1 := h1.one x
        have a2 := hsum x
        rw [hf1] at a2
        dsimp only at a1; omega) (fun x hx => by
        have a1 := h1.own x
        have a2 := hsum x
        rw [hf1] at a2
        dsimp only at a1
        exact (a1 (by omega)).1) hlen hby hm o.type
    have hrun' : (execOp a.eval o).run Try.prog w = .ok (.value v') w' := by
      simp only [execOp, ho, resolve, invoke, builtin, Sem.run_bind, Sem.run_pure, Result.andThen_ok, List.map_toArray, List.map_cons, List.map_nil, hva, hrun]
    have hnone := h1.new b (u + 1) (fun e he => by rw [hb1] at he; injection he with he; subst he; simp)
    have hκ' : ∀ b' v g, κ b' v = some g → (κ.on b (u + 1) (some v')) b' v = some g := fun b' v g hg => by
      unfold Ka.on
      by_cases hc : b' = b ∧ v = u + 1
      · rw [hc.1, hc.2, hnone.2] at hg; cases hg
      · rw [if_neg hc]; exact hg
    have e2 : (κ.on b (u + 1) (some v')) b (u + 1) = some v' := by simp [Ka.on]
    have ht := h1.turn (w' := w') (φ' := φ) (κ' := κ.on b (u + 1) (some v')) (u := u + 1) (B := .r e k (s1 ++ s2)) (g := S') (L' := Ct.z) hb1 (fun _ _ _ h => h) hκ' hsz' hos htp hou (fun x hx h0 => by rw [hf1] at h0; exact hblk x hx h0) (.r e2 (hrv _ _))
      (fun x hx => by rw [hf1]; have := hS1 x hx; simp only [Ct.z]; omega) (fun x hx => by have := hS2 x hx; simp only [Ct.z]; exact ⟨by omega, fun h0 => this.2 (by omega)⟩) (by simp) (fun _ _ _ h => h) (fun i v hv hn => by
        unfold Ka.on
        rw [if_neg (by omega)]; exact hn)
    have hv1 : v'.oneCell' = true := by obtain ⟨A, c, rfl, _⟩ := (hrv φ κ).sl_form; rfl
    exact ⟨v', w', φ, _, _, hrun', ht.puts o.dst (.hd e2 hv1)⟩) K
end
end Go.Proofs.Ytkdbedbefojieaa
