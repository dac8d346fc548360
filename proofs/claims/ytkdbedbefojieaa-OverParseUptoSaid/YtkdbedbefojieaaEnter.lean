/-
  A CONTRACT OUT OF A BODY, by abstract values. Nothing here names a function of the program.
-/
import Derived.Test.YtkdbedbefojieaaCtl
namespace Go.Proofs.Ytkdbedbefojieaa
set_option linter.unusedVariables false
set_option linter.unusedSimpArgs false
open Go.RowKit
set_option maxRecDepth 100000

mutual
theorem RnV.fro {w : World} {φ φ' : Fi} {κ : Ka} {R : Nat → Prop} {ks : List (Nat × Nat)} (hk : ∀ (i k u g : Nat), ks[i]? = some (k, u) → φ k u = some g → φ' i 0 = some g) (κ' : Ka) : ∀ {x x' : AV}, RnV ks x x' → ∀ {v : Value} {S : Ct}, RV w φ κ R x' v S → RV w φ' κ' R x v S
  | _, _, .leaf hl, _, _, hr => RV.any _ _ hr hl
  | _, _, .bp hi, _, _, hr => by cases hr with | bp hg => exact .bp (hk _ _ _ _ hi hg)
  | _, _, .ag hc, _, _, hr => by cases hr with | ag h1 h2 => exact .ag (RnC.fro hk κ' hc h1) h2
  | _, _, .tu hc, _, _, hr => by cases hr with | tu h1 => exact .tu (RnC.fro hk κ' hc h1)
theorem RnC.fro {w : World} {φ φ' : Fi} {κ : Ka} {R : Nat → Prop} {ks : List (Nat × Nat)} (hk : ∀ (i k u g : Nat), ks[i]? = some (k, u) → φ k u = some g → φ' i 0 = some g) (κ' : Ka) : ∀ {l l' : List AV}, RnC ks l l' → ∀ {vs : List Value} {S : Ct}, RC w φ κ R l' vs S → RC w φ' κ' R l vs S
  | _, _, .nil, _, _, hr => by cases hr; exact .nil
  | _, _, .cons h1 h2, _, _, hr => by cases hr with | cons h3 h4 h5 => exact .cons (RnV.fro hk κ' h1 h3) (RnC.fro hk κ' h2 h4) h5
end
theorem sumF_z (n x : Nat) : sumF (fun _ => Ct.z) n x = 0 := by
  induction n with
  | zero => rfl
  | succ n ih => simp [sumF, ih, Ct.z]
theorem RC.des {w : World} {φ : Fi} {κ : Ka} {R : Nat → Prop} : ∀ (us : List Value), RC w φ κ R (List.replicate us.length .de) us Ct.z
  | [] => .nil
  | u :: us => by simp only [List.length_cons, List.replicate_succ]; exact .cons (S := Ct.z) (T := Ct.z) .de (RC.des us) fun _ => rfl
theorem RC.und {w : World} {φ : Fi} {κ : Ka} {R : Nat → Prop} : ∀ (n : Nat), RC w φ κ R (List.replicate n (.tu [])) (List.replicate n undef) Ct.z
  | 0 => .nil
  | n + 1 => by simp only [List.replicate_succ]; exact .cons (S := Ct.z) (T := Ct.z) (.tu .nil) (RC.und n) fun _ => rfl

theorem AC.enter {fn : Nat} {F : Func} {c : Code} {nt : Nat} {args : List AV} {bs : List Bx} {Q : AV → List Bx → Prop} {b1 : List Sl} (hf : Try.prog.funcs[fn]? = some F) (hb : F.body = some c) (hname : (F.name == "runtime.NumGoroutine") = false) (hnt : F.ntmps = nt)
    (hfl : ∀ x ∈ args, x.fl1) (hbk : Bk (List.replicate bs.length ⟨0, .o⟩) ((List.range bs.length).map fun i => (i, 0)) bs b1)
    (K : ∀ X, CP Try.prog X c (RetQ F bs.length Q) ⟨(opnL args b1).1 ++ List.replicate (nt - args.length) (.tu []), (opnL args b1).2⟩) : AC Try.prog fn args bs Q := by
  refine ⟨fun xs w => ?_, ?_⟩
  · have hn : ¬ (F.name = "runtime.NumGoroutine") := by simpa using hname
    simp [callFunc, hf, hn, hb, go_sem, program, Sem.run, Sem.run_bind]
  intro w φ κ R vs gs Sa Sb hr hrx hφ hφn hκn hone hown hR
  have hgl := hrx.length
  have hvl := hr.length
  refine calls_of_wp hf hb ?_
  rw [hnt]
  have hat : ({ tmps := vs.toArray ++ Array.replicate (nt - vs.toArray.size) undef, defers := [] } : Act).tmps.toList = vs ++ List.replicate (nt - args.length) undef := by simp [hvl]
  generalize hact : ({ tmps := vs.toArray ++ Array.replicate (nt - vs.toArray.size) undef, defers := [] } : Act) = a at *
  have h0 : SatW ⟨R, w, fun x => Sa x + Sb x, gs⟩ φ κ (fun _ => Ct.z) (fun x => Sa x + Sb x) ⟨List.replicate a.tmps.toList.length .de, List.replicate bs.length ⟨0, .o⟩⟩ a w :=
    { tm := RC.des _
      df := by rw [← hact]
      sl := fun i e he => by
        rw [List.getElem?_replicate] at he
        split at he
        · injection he with he; subst he; exact .o
        · cases he
      one := fun x => by rw [sumF_z]; have := hone x; omega
      own := fun x hx => by rw [sumF_z] at hx; exact ⟨hown x (by omega), .inl (by show Sa x + Sb x ≠ 0; omega)⟩
      rd := fun x hx => by rw [sumF_z]; have := hR x hx; exact ⟨this.1, by (try dsimp only); omega⟩
      fr := Fr.refl _ _
      bas := hφ
      new := fun i v hv => by
        refine ⟨hφn i v ?_, hκn i v⟩
        by_cases hi : i < bs.length
        · have := hv ⟨0, .o⟩ (by rw [List.getElem?_replicate, if_pos hi]); exact .inr this
        · exact .inl (by omega) }
  obtain ⟨φ1, κ1, f1, e1, e2, e3⟩ := SatW.bk hbk (L' := Sa) h0 hrx (fun x => by (try dsimp only); omega) (fun i k u hi => by
    simp only [List.getElem?_map, Option.map_eq_some_iff] at hi
    obtain ⟨j, hj, hjk⟩ := hi
    obtain ⟨hlt, he⟩ := List.getElem?_eq_some_iff.1 hj
    simp at hlt he
    subst he
    injection hjk with e1 e2
    subst e1 e2
    have hg : gs[i]? = some (gs[i]'(by omega)) := List.getElem?_eq_getElem (by omega)
    exact ⟨_, hg, hφ _ _ hg⟩)
  obtain ⟨φ2, κ2, f2, e4, e5, e6, e7⟩ := e3.opnL_ (L' := Ct.z) (RC.hist e1 e2 (fun _ h => h) hr) (fun x => by simp [Ct.z]) hfl
  have h1 : Sat ⟨R, w, fun x => Sa x + Sb x, gs⟩ ⟨(opnL args b1).1 ++ List.replicate (nt - args.length) (.tu []), (opnL args b1).2⟩ a w :=
    ⟨_, φ2, κ2, f2, .rfl, e7.retm (by rw [hat]; exact e6.append (RC.und _) fun _ => rfl) e7.df⟩
  refine wp_mono (K _ a w h1) ?_
  rintro e a' w' ⟨s', ⟨hE, rs, r1, b2, ks, r, bs', b3, hl, hcl, hout, hrn, hks, hQ⟩, X3, φ3, κ3, f3, hX3, h3⟩
  obtain ⟨v, hv, hrun⟩ := run_results h3 hl
  obtain ⟨X4, S1, f4, hX4, h4, h5⟩ := SatW.clsR (t := s'.t) hcl h3 hv
  obtain ⟨X5, gs', Sb', f5, hX5, h6, h7, h8⟩ := SatW.out hout h5
  have hX := hX3.trans (hX4.trans hX5)
  have hφ'' : ∀ (i k u g : Nat), ks[i]? = some (k, u) → φ3 k u = some g → (fun i v => if v = 0 then gs'[i]? else none : Fi) i 0 = some g := fun i k u g hi hg => by
    obtain ⟨g', h9, h10⟩ := h8 i k u hi
    rw [hg] at h10; injection h10 with e; subst e
    simp [h9]
  have hr' := RnV.fro (φ' := fun i v => if v = 0 then gs'[i]? else none) hφ'' (fun _ _ => none) hrn (RV.hist (fun _ _ _ h => h) (fun _ _ _ h => h) hX5.up h4)
  have hup : ∀ x, X5.R x → R x ∨ (X5.R x ∧ ¬ R x) := fun x hx => (Classical.em (R x)).imp id fun h => ⟨hx, h⟩
  have hpost : ∃ v_1 r bs' gs' Sr Sb' φ', ∃ F : Nat → Prop, Ending.returned v = Ending.returned v_1 ∧ Q r bs' ∧ RV w' φ' (fun _ _ => none) (fun x => R x ∨ F x) r v_1 Sr ∧ RXs w' (fun x => R x ∨ F x) bs' gs' Sb' ∧
      (∀ (i g : Nat), gs'[i]? = some g → φ' i 0 = some g) ∧ (∀ (i g : Nat), gs[i]? = some g → gs'[i]? = some g) ∧
      (∀ x, Sr x + Sb' x ≤ 1) ∧ (∀ x, Sr x + Sb' x ≠ 0 ∨ F x → x < w'.heap.size ∧ (Sa x + Sb x ≠ 0 ∨ w.heap.size ≤ x)) ∧ (∀ x, F x → Sr x + Sb' x = 0) ∧ Fr w w' (fun x => Sa x + Sb x) := by
    have hS0 := hX.S0
    have hw0 := hX.w0
    have hg0 : X3.g0 = gs := hX3.g0
    refine ⟨v, r, bs', gs', S1, Sb', _, fun x => X5.R x ∧ ¬ R x, rfl, hQ, RV.hist (fun _ _ _ h => h) (fun _ _ _ h => h) hup hr', RXs.mono hup h6, fun i g hi => by simp [hi], fun i g hi => ?_, fun x => ?_, fun x hx => ?_, fun x hx => ?_, ?_⟩
    · have hil : i < bs.length := by have := (List.getElem?_eq_some_iff.1 hi).1; omega
      obtain ⟨g', h9, h10⟩ := h8 i i 0 (hks i hil)
      rw [h3.bas i g (by rw [hg0]; exact hi)] at h10; injection h10 with e; subst e
      exact h9
    · have := h7.one x
      simp only [Ct.z] at this; omega
    · rcases hx with hx | ⟨hx, hn⟩
      · have := h7.own x (by simp only [Ct.z]; omega)
        rw [hS0, hw0] at this
        exact this
      · exact ⟨(h7.rd x hx).1, (hX.dn x hx).resolve_left hn⟩
    · have := (h7.rd x hx.1).2
      simp only [Ct.z] at this; omega
    · have := h7.fr
      rw [hS0, hw0] at this
      exact this
  rcases hE with rfl | rfl
  · exact ⟨h3.df, v, hrun, hpost⟩
  · exact ⟨h3.df, v, hrun, hpost⟩

theorem RetQ.mk {F : Func} {n : Nat} {Q : AV → List Bx → Prop} {s : AS} {e : Exit} {vs : List AV} {r1 r : AV} {b1 b2 : List Sl} {ks : List (Nat × Nat)} {bs' : List Bx} (he : e = .normal ∨ e = .ret) (hq : Q r bs') (hr : RnV ks r r1) (hl : ResL s F.results.toList vs) (hc : ClsR s.b (resV vs) r1 b1) (ho : Out b1 ks bs' b2)
    (hk : ∀ i, i < n → ks[i]? = some (i, 0)) : RetQ F n Q e s := ⟨he, vs, r1, b1, ks, r, bs', b2, hl, hc, ho, hr, hk, hq⟩
/-! what the walk's reckoning takes -/
section
variable {v : Value} {k b u off i n : Nat} {o : Option TypeId} {e : TypeId} {s s' : List (List AV)} {l m : List AV} {t : List Sl} {T : TypeId} {a : AV} {p : Bool}
theorem oc_nil : opnC [] t = ([], t) := rfl
theorem oc_sc : opnC (.sc v :: l) t = (.sc v :: (opnC l t).1, (opnC l t).2) := rfl
theorem oc_sl : opnC (.sl none k s :: l) t = (.sl none k s :: (opnC l t).1, (opnC l t).2) := rfl
theorem oc_tr : opnC (.sl (some e) k s :: l) t = ((.hd (newS t (.r e k s)).1.1 (newS t (.r e k s)).1.2) :: (opnC l (newS t (.r e k s)).2).1, (opnC l (newS t (.r e k s)).2).2) := rfl
theorem oc_bp : opnC (.bp b u off :: l) t = (.bp b u off :: (opnC l t).1, (opnC l t).2) := rfl
theorem oc_de : opnC (.de :: l) t = (.de :: (opnC l t).1, (opnC l t).2) := rfl
theorem ov_sc : opnV (.sc v) t = (.sc v, t) := rfl
theorem ov_sl : opnV (.sl none k s) t = (.sl none k s, t) := rfl
theorem ov_tr : opnV (.sl (some e) k s) t = (.hd (newS t (.r e k s)).1.1 (newS t (.r e k s)).1.2, (newS t (.r e k s)).2) := rfl
theorem ov_bp : opnV (.bp b u off) t = (.bp b u off, t) := rfl
theorem ov_de : opnV .de t = (.de, t) := rfl
theorem ov_fn {f : Nat} : opnV (.fn f l) t = (.fn f l, t) := rfl
theorem oc_fn {f : Nat} : opnC (.fn f m :: l) t = (.fn f m :: (opnC l t).1, (opnC l t).2) := rfl
theorem or_fn {f : Nat} : opnR (.fn f l) t = (.fn f l, t) := rfl
theorem ov_ag : opnV (.ag l) t = (.ag (opnC l t).1, (opnC l t).2) := rfl
theorem ol_nil : opnL [] t = ([], t) := rfl
theorem ol_cons : opnL (a :: l) t = ((opnV a t).1 :: (opnL l (opnV a t).2).1, (opnL l (opnV a t).2).2) := rfl
theorem or_sc : opnR (.sc v) t = (.sc v, t) := rfl
theorem or_sl : opnR (.sl none k s) t = (.sl none k s, t) := rfl
theorem or_tr : opnR (.sl (some e) k s) t = (.hd (newS t (.r e k s)).1.1 (newS t (.r e k s)).1.2, (newS t (.r e k s)).2) := rfl
theorem or_bp : opnR (.bp b u off) t = (.bp b u off, t) := rfl
theorem or_de : opnR .de t = (.de, t) := rfl
theorem or_ag : opnR (.ag l) t = (.ag (opnC l t).1, (opnC l t).2) := rfl
theorem or_tu : opnR (.tu l) t = (.tu (opnL l t).1, (opnL l t).2) := rfl
theorem fx_nil : findX [] n = none := rfl
theorem fx_x : findX (⟨u, .x⟩ :: t) n = some (n, u) := rfl
theorem fx_c : findX (⟨u, .c T l⟩ :: t) n = findX t (n + 1) := rfl
theorem fx_r : findX (⟨u, .r e k s⟩ :: t) n = findX t (n + 1) := rfl
theorem fx_o : findX (⟨u, .o⟩ :: t) n = findX t (n + 1) := rfl
theorem ac_ag : (AV.ag l).cells = l := rfl
theorem ac_sc : (AV.sc v).cells = [.sc v] := rfl
theorem ac_sl : (AV.sl o k s).cells = [.sl o k s] := rfl
theorem ac_hd : (AV.hd b u).cells = [.hd b u] := rfl
theorem ac_fn {f : Nat} : (AV.fn f l).cells = [.fn f l] := rfl
theorem ae_f {s : AS} {f : Nat} : aev s (.func f) = .fn f [] := rfl
theorem ac_sb : (AV.sb b u k n).cells = [.sb b u k n] := rfl
theorem ac_bp : (AV.bp b u off).cells = [.bp b u off] := rfl
theorem ae_t {s : AS} {t : Tmp} : aev s (.tmp t) = s.t.getD t .de := rfl
theorem ae_i {s : AS} {k : IntKind} {x : Int} : aev s (.const (.int k x)) = .sc (.int k x) := rfl
theorem ae_b {s : AS} {x : Bool} : aev s (.const (.bool x)) = .sc (.bool x) := rfl
theorem ae_s {s : AS} {x : ByteArray} : aev s (.const (.string x)) = .sc (.string x) := rfl
theorem ae_l {s : AS} {x : Option Addr} {n c : Nat} : aev s (.const (.slice x n c)) = .sc (.slice x n c) := rfl
theorem ae_p {s : AS} {x : Option Addr} : aev s (.const (.pointer x)) = .sc (.pointer x) := rfl
theorem ap_some {s : AS} {d : Nat} : s.put (some d) a = ⟨s.t.set d a, s.b⟩ := rfl
theorem ap_none {s : AS} : s.put none a = s := rfl
end
end Go.Proofs.Ytkdbedbefojieaa
