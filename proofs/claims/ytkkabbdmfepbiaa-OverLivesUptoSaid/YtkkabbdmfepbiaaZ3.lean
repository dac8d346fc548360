/-
  Texts joined: C3, Eq, Ky, Fv, Ar, Sv, Pf, Ob, Mp, Mq, Wk, Fe, C4, C5, Ov1, C6, C7, C8, Mix, Ov2, Br, BrA, BrE, BrD.
-/
import Derived.Test.YtkkabbdmfepbiaaZ1
import Derived.Test.YtkkabbdmfepbiaaZ2
import Derived.DeepKeys
import Derived.MapKept
import Derived.WideShapes
import Derived.ChangeMaps4
import Derived.Laws.CopyRow
import Derived.Test.YtkkabbdmfepbiaaRows
import Derived.OpenShut
import Derived.Carry
import Derived.ChangeArms
import Derived.ChangeSame
import Derived.ChangeMaps5
import Derived.JoinedCond
import Derived.Deep.Slices
namespace Go.Proofs.Ytkkabbdmfepbiaa
set_option linter.unusedVariables false
set_option linter.unusedSimpArgs false
set_option maxHeartbeats 8000000
open Go.RowKit
set_option maxRecDepth 100000
abbrev lO (x : Life) : AV := .ag (eL (some tM) (some tE) (some tU) x)
def lWhole (x : Life) : Life := ⟨⟨x.book.cfg, x.book.since, true, x.book.upto⟩, x.boot, x.log⟩
def lBoot (x : Life) : Life := ⟨x.book, IntKind.i64.wrap (x.boot + 1), x.log⟩
def lBook (x : Life) (r : Record) : Life := ⟨r.book, x.boot, if r.drop then [] else x.log⟩
def lEntry (x : Life) (r : Record) : Life := if r.entry.pos = (x.log.length : Int) + 1 then ⟨x.book, x.boot, x.log ++ [r.entry]⟩ else x
abbrev fv (f : Nat) : AV := .sc (.func (.func f) #[] #[])
theorem whole_ac (x : Life) (r : Record) :
    AC Try.prog 28 [lO x, .ag (eR r)] [] (fun v bs' => v = lO (lWhole x) ∧ bs' = []) := by
  refine AC.N Try.func28 Try.ntmps28 ?_
  intro X hρ hmks
  simp only [nx, Nat.reduceAdd, Nat.reduceSub, BEq.rfl]
  repeat' (first | ((first | ((with_reducible apply AP.k_any); first | refine AP.S ?_)) <;> (try simp only [nx, Nat.reduceAdd, Nat.reduceSub, BEq.rfl])) | ((with_reducible apply AP.k_nil); first | (refine AP.nil (hQ' _ ?_); clear hQ' Q') | refine AP.nil ?_) | ((with_reducible apply CP.k_reg); refine cp_regG fun Q' hQ' => ?_) | refine CP.W ?_ | refine cp_cond rfl (fun hc => ?_) (fun hc => ?_) | (simp only [List.append_eq, List.cons_append, List.nil_append]))
  (refine RetQ.B [] ?_; (try dsimp only [resV, List.getD_cons_succ, List.getD_cons_zero]); (exact ⟨by simp [lWhole], rfl⟩))
theorem boot_ac (x : Life) (r : Record) :
    AC Try.prog 29 [lO x, .ag (eR r)] [] (fun v bs' => v = lO (lBoot x) ∧ bs' = []) := by
  refine AC.N Try.func29 Try.ntmps29 ?_
  intro X hρ hmks
  simp only [nx, Nat.reduceAdd, Nat.reduceSub, BEq.rfl]
  repeat' (first | ((first | ((with_reducible apply AP.k_any); first | refine AP.S ?_)) <;> (try simp only [nx, Nat.reduceAdd, Nat.reduceSub, BEq.rfl])) | ((with_reducible apply AP.k_nil); first | (refine AP.nil (hQ' _ ?_); clear hQ' Q') | refine AP.nil ?_) | ((with_reducible apply CP.k_reg); refine cp_regG fun Q' hQ' => ?_) | refine CP.W ?_ | refine cp_cond rfl (fun hc => ?_) (fun hc => ?_) | (simp only [List.append_eq, List.cons_append, List.nil_append]))
  (refine RetQ.B [] ?_; (try dsimp only [resV, List.getD_cons_succ, List.getD_cons_zero]); (exact ⟨by simp [lBoot], rfl⟩))
theorem book_ac (x : Life) (r : Record) (ha : r.book.cfg.members.length ≤ 100000000) :
    AC Try.prog 26 [lO x, .ag (eR r)] [] (fun v bs' => v = lO (lBook x r) ∧ bs' = []) := by
  refine AC.N Try.func26 Try.ntmps26 ?_
  intro X hρ hmks
  simp only [nx, Nat.reduceAdd, Nat.reduceSub, BEq.rfl]
  repeat' (first | ((first | ((with_reducible apply AP.k_any); first | refine AP.S ?_) | ((with_reducible apply AP.k_any); refine AP.C (own_ac r.book.cfg ha) ?_)) <;> (try simp only [nx, Nat.reduceAdd, Nat.reduceSub, BEq.rfl])) | ((with_reducible apply AP.k_nil); first | (refine AP.nil (hQ' _ ?_); clear hQ' Q') | refine AP.nil ?_) | ((with_reducible apply CP.k_reg); refine cp_regG fun Q' hQ' => ?_) | refine CP.W ?_ | refine cp_cond rfl (fun hc => ?_) (fun hc => ?_) | (simp only [List.append_eq, List.cons_append, List.nil_append]))
  · (exact RetQ.A [] (by (have e : lBook x r = ⟨r.book, x.boot, []⟩ := by simp [lBook, *]); exact ⟨(congrArg lO e.symm), rfl⟩))
  · (refine RetQ.B [] ?_; (try dsimp only [resV, List.getD_cons_succ, List.getD_cons_zero]); (exact ⟨by simp [lBook, *], rfl⟩))
theorem doings_ac : AC Try.prog 20 [] [] (fun v bs' => v = .ag [.sc .nilFunc, fv 26, fv 27, fv 28, fv 29] ∧ bs' = []) := by
  refine AC.N Try.func20 Try.ntmps20 ?_
  intro X hρ hmks
  simp only [nx, Nat.reduceAdd, Nat.reduceSub, BEq.rfl]
  repeat' (first | ((first | ((with_reducible apply AP.k_any); first | refine AP.S ?_)) <;> (try simp only [nx, Nat.reduceAdd, Nat.reduceSub, BEq.rfl])) | ((with_reducible apply AP.k_nil); first | (refine AP.nil (hQ' _ ?_); clear hQ' Q') | refine AP.nil ?_) | ((with_reducible apply CP.k_reg); refine cp_regG fun Q' hQ' => ?_) | refine CP.W ?_ | refine cp_cond rfl (fun hc => ?_) (fun hc => ?_) | (simp only [List.append_eq, List.cons_append, List.nil_append]))
  (refine RetQ.B [] ?_; (try dsimp only [resV, List.getD_cons_succ, List.getD_cons_zero]); (exact ⟨rfl, rfl⟩))
theorem entry_ac (x : Life) (r : Record) (ha : r.entry.body.length ≤ 100000000) (hx : x.log.length ≤ 100000000) :
    AC Try.prog 27 [lO x, .ag (eR r)] [] (fun v bs' => v = lO (lEntry x r) ∧ bs' = []) := by
  have hw : IntKind.i64.wrap ((x.log.length : Int) + 1) = (x.log.length : Int) + 1 := wrap_i64 (by omega) (by omega)
  refine AC.N Try.func27 Try.ntmps27 ?_
  intro X hρ hmks
  simp only [nx, Nat.reduceAdd, Nat.reduceSub, BEq.rfl]
  repeat' (first | ((first | ((with_reducible apply AP.k_any); first | refine AP.S ?_ | (refine AP.V (fun c hnil => ?_); simp only [nz])) | ((with_reducible apply AP.k_any); refine AP.C (bclone_ac r.entry.body ha) ?_)) <;> (try simp only [nx, Nat.reduceAdd, Nat.reduceSub, BEq.rfl])) | ((with_reducible apply AP.k_nil); first | (refine AP.nil (hQ' _ ?_); clear hQ' Q') | refine AP.nil ?_) | ((with_reducible apply CP.k_reg); refine cp_regG fun Q' hQ' => ?_) | refine CP.W ?_ | refine cp_cond rfl (fun hc => ?_) (fun hc => ?_) | (simp only [List.append_eq, List.cons_append, List.nil_append]))
  · simp only [List.length_map, hw, beq_iff_eq] at hc
    have he : lEntry x r = ⟨x.book, x.boot, x.log ++ [r.entry]⟩ := by simp [lEntry, hc]
    refine cp_drawI (fun s b => match b with
      | [l0, l1, l2, l3, l4, l5, l6, l7, l8, l9, l10, l11, l12, l13] => ⟨s.t.take 19 ++ [cond l0 (.bp 2 1 6) (.tu []), cond l1 (.hd 1 1) (.tu []), cond l2 (.bp 2 1 6) (.tu []), cond l3 (.hd 1 1) (.tu []), cond l4 (I (x.log.map (eE (some tU))).length) (.tu []),
          cond l5 (.bp 2 1 6) (.tu []), cond l6 (.hd 1 1) (.tu []), cond l7 (I (x.log.map (eE (some tU))).length) (.tu []), cond l8 (.hf 1 1) (.tu []), cond l9 (.ag [I r.entry.pos, I r.entry.stamp, I r.entry.client, I r.entry.id, .hd 6 1]) (.tu []),
          cond l10 (.hd 6 2) (.tu []), cond l11 (.hd 1 2) (.tu []), cond l12 (.bp 2 1 6) (.tu []), .tu []],
        cond l13 (((s.b.set 6 ⟨2, .x⟩).set 1 ⟨2, .r tE 5 (x.log.map (eE (some tU)) ++ [eE (some tU) r.entry])⟩).set 2 ⟨1, .c 37 [I x.book.cfg.epoch, .hd 0 1, I x.book.since, B x.book.whole, I x.book.upto, I x.boot, .hd 1 2]⟩)
          (cond l11 ((s.b.set 6 ⟨2, .x⟩).set 1 ⟨2, .r tE 5 (x.log.map (eE (some tU)) ++ [eE (some tU) r.entry])⟩)
          (cond l10 (s.b.set 6 ⟨2, .r tE 5 [eE (some tU) r.entry]⟩) s.b))⟩
      | _ => s) rfl (by kernel_rfl) rfl ?_ ?_
    · intro b hb hcl
      match b, hb with
      | [l0, l1, l2, l3, l4, l5, l6, l7, l8, l9, l10, l11, l12, l13], _ =>
        simp only [StepsP]
        repeat' apply And.intro
        case right => trivial
        all_goals
          intro h1 h2
          simp [depsOk, Region.binds] at h1 h2
          try subst h1
          repeat (obtain ⟨rfl, h2⟩ := h2)
          try subst h2
        all_goals
          simp only [closedB, depsOk, Region.binds, List.toList_toArray, List.all_cons, List.all_nil, List.getD_cons_succ, List.getD_cons_zero, Bool.not_true, Bool.not_false, Bool.true_or, Bool.false_or, Bool.and_true, Bool.true_and, Bool.or_true, Bool.and_false, Bool.or_false, Bool.false_and] at hcl
        all_goals
          (first | cases l8 | skip) <;> (first | cases l10 | skip) <;> (first | cases l11 | skip) <;> (first | cases l13 | skip) <;> first
            | (exfalso; simp at hcl; done)
            | (dsimp only [cond_true, cond_false, List.set_cons_succ, List.set_cons_zero, List.take_succ_cons, List.take_zero, List.drop_succ_cons, List.drop_zero, List.cons_append, List.nil_append]
               clear hcl)
        all_goals
          repeat' (first | ((first | ((with_reducible apply AP.k_any); first | refine AP.S ?_ | (refine AP.V (fun c hnil => ?_); simp only [nz])) | exact ⟨rfl, rfl⟩) <;> (try simp only [nx, Nat.reduceAdd, Nat.reduceSub, BEq.rfl])) | ((with_reducible apply AP.k_nil); first | (refine AP.nil (hQ' _ ?_); clear hQ' Q') | refine AP.nil ?_) | ((with_reducible apply CP.k_reg); refine cp_regG fun Q' hQ' => ?_) | refine CP.W ?_ | refine cp_cond rfl (fun hc => ?_) (fun hc => ?_) | (simp only [List.append_eq, List.cons_append, List.nil_append]))
    · dsimp only [cond_true, cond_false, List.set_cons_succ, List.set_cons_zero, List.take_succ_cons, List.take_zero, List.drop_succ_cons, List.drop_zero, List.cons_append, List.nil_append, List.length_cons, List.length_nil, List.replicate_succ, List.replicate_zero, Nat.reduceAdd]
      repeat' (first | ((first | ((with_reducible apply AP.k_any); first | refine AP.S ?_ | (refine AP.V (fun c hnil => ?_); simp only [nz]))) <;> (try simp only [nx, Nat.reduceAdd, Nat.reduceSub, BEq.rfl])) | ((with_reducible apply AP.k_nil); first | (refine AP.nil (hQ' _ ?_); clear hQ' Q') | refine AP.nil ?_) | ((with_reducible apply CP.k_reg); refine cp_regG fun Q' hQ' => ?_) | refine CP.W ?_ | refine cp_cond rfl (fun hc => ?_) (fun hc => ?_) | (simp only [List.append_eq, List.cons_append, List.nil_append]))
      (refine RetQ.B [] ?_; (try dsimp only [resV, List.getD_cons_succ, List.getD_cons_zero]); (exact ⟨by rw [he]; simp, rfl⟩))
  · (refine RetQ.B [] ?_; (try dsimp only [resV, List.getD_cons_succ, List.getD_cons_zero]); ((have e : lEntry x r = x := by (simp only [List.length_map, hw] at hc; simp at hc; simp [lEntry, hc])); exact ⟨by rw [e], rfl⟩))
end Go.Proofs.Ytkkabbdmfepbiaa

namespace Go.Proofs.Ytkkabbdmfepbiaa
set_option linter.unusedVariables false
set_option linter.unusedSimpArgs false
open Go.RowKit
set_option maxRecDepth 100000
inductive Sh where
  | i (k : IntKind)
  | b
  | s
deriving DecidableEq
/-- a cell held against another one -/
def eqV1 : Value → Value → Bool
  | .int _ a, .int _ b => a == b
  | .bool a, .bool b => a == b
  | .string a, .string b => a.toList == b.toList
  | _, _ => false
def eqVs : List Value → List Value → Bool
  | [], [] => true
  | x :: l, y :: m => eqV1 x y && eqVs l m
  | _, _ => false
def shC1 : Sh → Value → Bool
  | .i k, .int k' _ => decide (k' = k)
  | .b, .bool _ => true
  | .s, .string _ => true
  | _, _ => false
def shC : List Sh → List Value → Bool
  | [], [] => true
  | h :: l, v :: m => shC1 h v && shC l m
  | _, _ => false
def repS (sh : List Sh) : Nat → List Sh
  | 0 => []
  | n + 1 => sh ++ repS sh n
def aggT (P : Program) (t : TypeId) : Bool := match P.underlying t with
  | some (.struct _) | some (.array _ _) => true
  | _ => false
def flatFs (f : TypeId → Option (List Sh)) : Nat → List Field → Option (List Sh)
  | _, [] => some []
  | off, x :: l => match x.name != "_" && Nat.beq x.offset off, f x.type with
    | true, some sh => match flatFs f (off + sh.length) l with
      | some r => some (sh ++ r)
      | none => none
    | _, _ => none
def flatT (P : Program) : Nat → TypeId → Option (List Sh)
  | 0, _ => none
  | d + 1, t => match P.underlying t with
    | some .bool => some [.b]
    | some (.int k) => some [.i k]
    | some .string => some [.s]
    | some (.array n e) => match flatT P d e with
      | some sh => match Nat.beq (P.cellsOf e) sh.length with
        | true => some (repS sh n)
        | false => none
      | none => none
    | some (.struct fs) => match P.stoodInHeld t with
      | true => none
      | false => flatFs (fun u => match flatT P d u with
        | some sh => match Nat.beq (P.cellsOf u) sh.length with
          | true => some sh
          | false => none
        | none => none) 0 fs.toList
    | _ => none
theorem eqVs_append : ∀ {a b c d : List Value}, a.length = b.length → eqVs (a ++ c) (b ++ d) = (eqVs a b && eqVs c d)
  | [], [], c, d, _ => by simp [eqVs]
  | x :: a, y :: b, c, d, h => by simp only [List.cons_append, eqVs]; rw [eqVs_append (by simpa using h), Bool.and_assoc]
theorem shC_length : ∀ {sh : List Sh} {vs : List Value}, shC sh vs = true → vs.length = sh.length
  | [], [], _ => rfl
  | _ :: l, _ :: m, h => by simp only [shC, Bool.and_eq_true] at h; simp [shC_length h.2]
theorem shC_split : ∀ {a b : List Sh} {vs : List Value}, shC (a ++ b) vs = true → shC a (vs.take a.length) = true ∧ shC b (vs.drop a.length) = true
  | [], b, vs, h => ⟨by simp [shC], by simpa using h⟩
  | x :: a, b, [], h => by simp [shC] at h
  | x :: a, b, v :: vs, h => by
    simp only [List.cons_append, shC, Bool.and_eq_true] at h
    have := shC_split h.2
    simp only [List.length_cons, List.take_succ_cons, shC, Bool.and_eq_true, List.drop_succ_cons]
    exact ⟨⟨h.1, this.1⟩, this.2⟩
def valT (P : Program) (t : TypeId) (cs : List Value) : Value := match aggT P t with
  | true => .agg cs.toArray
  | false => cs.headD undef
section
variable {P : Program}
theorem run_part_flat {d : Nat} {e : TypeId} {sh : List Sh} (hf : flatT P d e = some sh) (hn : P.cellsOf e = sh.length) (w : World) (xs : List Value) (off : Nat) (h : shC sh ((xs.drop off).take sh.length) = true) :
    (part e xs.toArray off).run P w = .ok (valT P e ((xs.drop off).take sh.length)) w := by
  have hl := shC_length h
  cases d with
  | zero => simp [flatT] at hf
  | succ d =>
    cases hu : P.underlying e with
    | none => simp [flatT, hu] at hf
    | some kd =>
      obtain ⟨i, hi⟩ := info_of_underlying hu
      have agg : aggT P e = true → (part e xs.toArray off).run P w = .ok (valT P e ((xs.drop off).take sh.length)) w := by
        intro ha
        have hk : (∃ n e', kd = .array n e') ∨ (∃ fs, kd = .struct fs) := by
          unfold aggT at ha
          rw [hu] at ha
          cases kd <;> simp at ha <;> first | exact .inl ⟨_, _, rfl⟩ | exact .inr ⟨_, rfl⟩
        have hs : (sizeOf e).run P w = .ok sh.length w := by rw [run_sizeOf w hi, hn]
        unfold part valT
        rw [ha]
        have hx : (xs.toArray.extract off (off + sh.length)) = ((xs.drop off).take sh.length).toArray := by
          simp [List.extract_toArray, List.extract_eq_take_drop]
        rcases hk with ⟨n, e', rfl⟩ | ⟨fs, rfl⟩ <;> simp [Sem.run_bind, isAgg, run_underlying hu, hs, hx, Result.andThen_ok]
      have one : aggT P e = false → sh.length = 1 → (part e xs.toArray off).run P w = .ok (valT P e ((xs.drop off).take sh.length)) w := by
        intro ha h1
        have hk : (isAgg e).run P w = .ok false w := by
          unfold aggT at ha
          rw [hu] at ha
          cases kd <;> simp at ha <;> simp [isAgg, Sem.run_bind, run_underlying hu, Result.andThen_ok]
        rw [h1] at hl h ⊢
        unfold part valT
        rw [ha]
        obtain ⟨v, hv⟩ : ∃ v, xs[off]? = some v := by
          rw [List.length_take, List.length_drop] at hl
          exact ⟨_, List.getElem?_eq_getElem (by omega)⟩
        have hd : (xs.drop off).take 1 = [v] := by
          have h2 : off < xs.length := (List.getElem?_eq_some_iff.1 hv).1
          rw [List.drop_eq_getElem_cons h2]
          rw [List.getElem?_eq_getElem h2] at hv
          simp at hv; simp [hv]
        rw [hd]
        simp [Sem.run_bind, hk, Result.andThen_ok, hv]
      cases hA : aggT P e with
      | true => exact agg hA
      | false =>
        refine one hA ?_
        unfold flatT at hf
        rw [hu] at hf
        unfold aggT at hA
        rw [hu] at hA
        cases kd <;> simp at hf hA <;> (subst hf; rfl)
def EqF (P : Program) (dd : Nat) (t : TypeId) (sh : List Sh) : Prop :=
  ∀ (w : World) (xs ys : List Value), shC sh xs = true → shC sh ys = true → (Op.equalIn dd t (valT P t xs) (valT P t ys)).run P w = .ok (eqVs xs ys) w
theorem valT_agg {t : TypeId} {cs : List Value} (h : aggT P t = true) : valT P t cs = .agg cs.toArray := by unfold valT; rw [h]
theorem run_eqFields_flat {dd : Nat} {f : TypeId → Option (List Sh)} (hf : ∀ u sh, f u = some sh → P.cellsOf u = sh.length ∧ (∃ d, flatT P d u = some sh) ∧ EqF P dd u sh) (xs ys : List Value) (w : World) : ∀ (fs : List Field) (off : Nat) (sh : List Sh), flatFs f off fs = some sh →
    shC sh (xs.drop off) = true → shC sh (ys.drop off) = true → (Op.eqFields dd xs.toArray ys.toArray fs).run P w = .ok (eqVs (xs.drop off) (ys.drop off)) w
  | [], off, sh, h, h1, h2 => by
    simp only [flatFs, Option.some.injEq] at h; subst h
    have a1 := List.length_eq_zero_iff.1 (shC_length h1)
    have a2 := List.length_eq_zero_iff.1 (shC_length h2)
    simp [Op.eqFields, a1, a2, eqVs]
  | x :: l, off, sh, h, h1, h2 => by
    unfold flatFs at h
    split at h <;> try cases h
    rename_i sx hx hfx
    split at h <;> try cases h
    rename_i r hr
    simp only [Bool.and_eq_true, bne_iff_ne, ne_eq] at hx
    obtain ⟨hn, ho⟩ := hx
    have ho : x.offset = off := Nat.eq_of_beq_eq_true ho
    obtain ⟨k1, ⟨d, k2⟩, k3⟩ := hf _ _ hfx
    obtain ⟨a1, a2⟩ := shC_split h1
    obtain ⟨b1, b2⟩ := shC_split h2
    rw [List.drop_drop] at a2 b2
    have p1 := run_part_flat k2 k1 w xs off a1
    have p2 := run_part_flat k2 k1 w ys off b1
    have p3 := k3 w _ _ a1 b1
    have ih := run_eqFields_flat hf xs ys w l (off + sx.length) r hr a2 b2
    have e : eqVs (xs.drop off) (ys.drop off) = (eqVs ((xs.drop off).take sx.length) ((ys.drop off).take sx.length) && eqVs (xs.drop (off + sx.length)) (ys.drop (off + sx.length))) := by
      rw [← List.drop_drop, ← List.drop_drop, ← eqVs_append (by rw [shC_length a1, shC_length b1]), List.take_append_drop, List.take_append_drop]
    simp only [Op.eqFields, hn, ne_eq, not_false_eq_true, if_true, Sem.run_bind]
    rw [ho, p1]
    simp only [Result.andThen_ok, p2, p3]
    rw [e]
    cases eqVs ((xs.drop off).take sx.length) ((ys.drop off).take sx.length) with
    | false => simp
    | true => simpa using ih
theorem run_eqItems_flat {dd : Nat} {e : TypeId} {sh : List Sh} (hn : P.cellsOf e = sh.length) (hd : ∃ d, flatT P d e = some sh) (hE : EqF P dd e sh) (xs ys : List Value) (w : World) : ∀ (m k : Nat),
    shC (repS sh m) (xs.drop (k * sh.length)) = true → shC (repS sh m) (ys.drop (k * sh.length)) = true → (Op.eqItems dd e (P.cellsOf e) xs.toArray ys.toArray (List.range' k m)).run P w = .ok (eqVs (xs.drop (k * sh.length)) (ys.drop (k * sh.length))) w
  | 0, k, h1, h2 => by
    have a1 := List.length_eq_zero_iff.1 (shC_length h1)
    have a2 := List.length_eq_zero_iff.1 (shC_length h2)
    simp [Op.eqItems, a1, a2, eqVs]
  | m + 1, k, h1, h2 => by
    obtain ⟨d, k2⟩ := hd
    obtain ⟨a1, a2⟩ := shC_split (a := sh) (b := repS sh m) h1
    obtain ⟨b1, b2⟩ := shC_split (a := sh) (b := repS sh m) h2
    have hk : k * sh.length + sh.length = (k + 1) * sh.length := by rw [Nat.add_mul]; omega
    rw [List.drop_drop, hk] at a2 b2
    have p1 := run_part_flat k2 hn w xs (k * sh.length) a1
    have p2 := run_part_flat k2 hn w ys (k * sh.length) b1
    have p3 := hE w _ _ a1 b1
    have ih := run_eqItems_flat hn ⟨d, k2⟩ hE xs ys w m (k + 1) a2 b2
    have e : eqVs (xs.drop (k * sh.length)) (ys.drop (k * sh.length)) = (eqVs ((xs.drop (k * sh.length)).take sh.length) ((ys.drop (k * sh.length)).take sh.length) && eqVs (xs.drop ((k + 1) * sh.length)) (ys.drop ((k + 1) * sh.length))) := by
      rw [← hk, ← List.drop_drop, ← List.drop_drop, ← eqVs_append (by rw [shC_length a1, shC_length b1]), List.take_append_drop, List.take_append_drop]
    rw [List.range'_succ]
    simp only [Op.eqItems, Sem.run_bind]
    rw [hn] at ih ⊢
    rw [p1]
    simp only [Result.andThen_ok, p2, p3]
    rw [e]
    cases eqVs ((xs.drop (k * sh.length)).take sh.length) ((ys.drop (k * sh.length)).take sh.length) with
    | false => simp
    | true => simpa using ih
theorem eqF : ∀ (d k : Nat) (t : TypeId) (sh : List Sh), flatT P d t = some sh → EqF P (k + d) t sh
  | 0, _, _, _, h => by simp [flatT] at h
  | d + 1, k, t, sh, h => by
    intro w xs ys hx hy
    have hall := h
    unfold flatT at h
    have two : ∀ {h0 : Sh}, sh = [h0] → ∃ v u, xs = [v] ∧ ys = [u] ∧ shC1 h0 v = true ∧ shC1 h0 u = true := by
      intro h0 hs
      subst hs
      have l1 := shC_length hx
      have l2 := shC_length hy
      obtain ⟨v, rfl⟩ := List.length_eq_one_iff.1 l1
      obtain ⟨u, rfl⟩ := List.length_eq_one_iff.1 l2
      exact ⟨v, u, rfl, rfl, by simpa [shC] using hx, by simpa [shC] using hy⟩
    split at h <;> try cases h
    · rename_i hu
      obtain ⟨v, u, rfl, rfl, h1, h2⟩ := two rfl
      cases v <;> simp [shC1] at h1
      cases u <;> simp [shC1] at h2
      simp [valT, aggT, hu, eqVs, eqV1, run_equalIn_bool w (k + d) t _ _ hu, ← Nat.add_assoc]
    · rename_i q hu
      obtain ⟨v, u, rfl, rfl, h1, h2⟩ := two rfl
      cases v <;> simp [shC1] at h1
      cases u <;> simp [shC1] at h2
      subst h1; subst h2
      simp [valT, aggT, hu, eqVs, eqV1, run_equalIn_int (w := w) (k + d) t _ _ _ _ hu, ← Nat.add_assoc]
    · rename_i hu
      obtain ⟨v, u, rfl, rfl, h1, h2⟩ := two rfl
      cases v <;> simp [shC1] at h1
      cases u <;> simp [shC1] at h2
      simp [valT, aggT, hu, eqVs, eqV1, run_equalIn_string (w := w) (k + d) t _ _ hu, ← Nat.add_assoc]
    · rename_i n e hu
      split at h <;> try cases h
      rename_i sh0 hf
      split at h <;> cases h
      rename_i hn
      have hn := Nat.eq_of_beq_eq_true hn
      have hA : aggT P t = true := by unfold aggT; rw [hu]
      obtain ⟨i, hi⟩ : ∃ i, P.info? e = some i := by
        cases d with
        | zero => simp [flatT] at hf
        | succ d =>
          cases hu2 : P.underlying e with
          | none => simp [flatT, hu2] at hf
          | some kd => exact info_of_underlying hu2
      rw [valT_agg hA, valT_agg hA, ← Nat.add_assoc, run_equalIn_array w (k + d) _ _ hu hi, List.range_eq_range']
      have := run_eqItems_flat hn ⟨d, hf⟩ (eqF d k e sh0 hf) xs ys w n 0 (by simpa using hx) (by simpa using hy)
      simpa using this
    · rename_i fs hu
      split at h <;> try cases h
      rename_i hst
      have hA : aggT P t = true := by unfold aggT; rw [hu]
      have hfs : P.fieldsOf t = fs := by unfold Program.fieldsOf; rw [hu]
      rw [valT_agg hA, valT_agg hA, ← Nat.add_assoc, run_equalIn_struct w (k + d) t _ _ (by rw [hfs]; exact hu) hst, hfs]
      have := run_eqFields_flat (dd := k + d) (fun u s hs => by
        split at hs <;> try cases hs
        rename_i s' hs'
        split at hs <;> cases hs
        rename_i hn
        exact ⟨Nat.eq_of_beq_eq_true hn, ⟨d, hs'⟩, eqF d k u _ hs'⟩) xs ys w fs.toList 0 sh h (by simpa using hx) (by simpa using hy)
      simpa using this
end
section
variable {X : Cx} {s : AS} {ops : Array Oper} {rest : List Oper} {Q : Exit → AS → Prop} {Qa : AS → Prop} {d : Option Nat} {ty : Nat} {pos : String} {aft : Array Edge} {op : BinOp} {T T' : TypeId} {x y : Operand} {l l' : List AV} {vs us : List Value} {r : Bool}
end
end Go.Proofs.Ytkkabbdmfepbiaa

namespace Go.Proofs.Ytkkabbdmfepbiaa
set_option linter.unusedVariables false
set_option linter.unusedSimpArgs false
open Go.RowKit
set_option maxRecDepth 100000
theorem ba_beq (a b : ByteArray) : (a == b) = (a.data.toList == b.data.toList) := by
  cases a; cases b
  show ByteArray.beq _ _ = _
  unfold ByteArray.beq
  simp
def kEq : Value → Value → Bool
  | .agg a, .agg b => eqVs a.toList b.toList
  | a, b => eqV1 a b
/-- where a key stands -/
def fnd (k : Value) : List Value → Option Nat
  | [] => none
  | x :: l => match kEq k x with
    | true => some 0
    | false => match fnd k l with
      | some n => some (n + 1)
      | none => none
/-- a key of a type -/
def isKey (P : Program) (K : TypeId) (sh : List Sh) (v : Value) : Bool := match aggT P K with
  | true => match v with
    | .agg cs => shC sh cs.toList
    | _ => false
  | false => match v with
    | .agg _ => false
    | v => shC sh [v]
theorem fnd_lt {k : Value} : ∀ {l : List Value} {n : Nat}, fnd k l = some n → n < l.length
  | [], _, h => by simp [fnd] at h
  | x :: l, n, h => by
    unfold fnd at h
    split at h
    · injection h with h; subst h; simp
    · split at h <;> cases h
      rename_i hm
      have := fnd_lt hm
      simp; omega
theorem fnd_at {k : Value} : ∀ {l : List Value} {n : Nat}, fnd k l = some n → ∃ x, l[n]? = some x ∧ kEq k x = true
  | [], _, h => by simp [fnd] at h
  | x :: l, n, h => by
    unfold fnd at h
    split at h
    · rename_i hx; injection h with h; subst h; exact ⟨x, rfl, hx⟩
    · split at h <;> cases h
      rename_i hm
      simpa using fnd_at hm
theorem eqV1_eq {h : Sh} {u v : Value} (hu : shC1 h u = true) (hv : shC1 h v = true) (he : eqV1 u v = true) : u = v := by
  cases h <;> cases u <;> simp [shC1] at hu <;> cases v <;> simp [shC1] at hv <;> simp [eqV1] at he
  · subst hu; subst hv; subst he; rfl
  · subst he; rfl
  · congr 1
    rw [ByteArray.toList_eq, ByteArray.toList_eq] at he
    exact Go.WideShapes.bytes_inj he
theorem eqVs_eq : ∀ {sh : List Sh} {us vs : List Value}, shC sh us = true → shC sh vs = true → eqVs us vs = true → us = vs
  | [], [], [], _, _, _ => rfl
  | h :: sh, u :: us, v :: vs, h1, h2, he => by
    simp only [shC, eqVs, Bool.and_eq_true] at h1 h2 he
    rw [eqV1_eq h1.1 h2.1 he.1, eqVs_eq h1.2 h2.2 he.2]
section
variable {P : Program} {K : TypeId} {sh : List Sh} {w : World}
theorem isKey_val {v : Value} (h : isKey P K sh v = true) : ∃ cs, v = valT P K cs ∧ shC sh cs = true := by
  unfold isKey at h
  split at h
  · rename_i hA
    split at h
    · rename_i cs; exact ⟨cs.toList, by rw [valT_agg hA], h⟩
    · cases h
  · rename_i hA
    split at h
    · cases h
    · exact ⟨[v], by simp [valT, hA], h⟩
theorem kEq_val {a b : Value} (ha : isKey P K sh a = true) (hb : isKey P K sh b = true) : ∃ xs ys, a = valT P K xs ∧ b = valT P K ys ∧ shC sh xs = true ∧ shC sh ys = true ∧ kEq a b = eqVs xs ys := by
  unfold isKey at ha hb
  cases hA : aggT P K with
  | true =>
    rw [hA] at ha hb
    cases a <;> simp at ha
    cases b <;> simp at hb
    rename_i x y
    exact ⟨x.toList, y.toList, by rw [valT_agg hA], by rw [valT_agg hA], ha, hb, rfl⟩
  | false =>
    rw [hA] at ha hb
    dsimp only at ha hb
    refine ⟨[a], [b], by simp [valT, hA], by simp [valT, hA], ?_, ?_, ?_⟩
    · cases a <;> first | exact ha | (simp at ha; done)
    · cases b <;> first | exact hb | (simp at hb; done)
    · have : kEq a b = eqV1 a b := by
        cases a <;> first | rfl | (simp at ha; done)
      rw [this]; simp [eqVs]
theorem kEq_eq {a b : Value} (ha : isKey P K sh a = true) (hb : isKey P K sh b = true) (h : kEq a b = true) : a = b := by
  obtain ⟨xs, ys, rfl, rfl, h1, h2, h3⟩ := kEq_val ha hb
  rw [h3] at h
  rw [eqVs_eq h1 h2 h]
theorem run_key_eq {a b : Value} (hf : flatT P 9 K = some sh) (ha : isKey P K sh a = true) (hb : isKey P K sh b = true) : (Op.equal K a b).run P w = .ok (kEq a b) w := by
  obtain ⟨xs, ys, rfl, rfl, h1, h2, h3⟩ := kEq_val ha hb
  rw [h3]
  exact eqF 9 9991 K sh hf w xs ys h1 h2
def fndE (k : Value) (es : List MapEntry) : Option (Nat × Value) := match fnd k (es.map (·.key)) with
  | some n => some (n, (es[n]?.map (·.val)).getD undef)
  | none => none
theorem run_findAsking_flat {k : Value} (hf : flatT P 9 K = some sh) (hk : isKey P K sh k = true) : ∀ (es : List MapEntry) (i : Nat), (∀ e ∈ es, isKey P K sh e.key = true) →
    (Instr.findAsking K k es i).run P w = .ok ((fndE k es).map fun x => (i + x.1, x.2)) w
  | [], i, _ => by simp [Instr.findAsking, fndE, fnd]
  | e :: es, i, h => by
    have h1 := run_key_eq (w := w) hf hk (h e (by simp))
    have ih := run_findAsking_flat hf hk es (i + 1) fun x hx => h x (by simp [hx])
    simp only [Instr.findAsking, Sem.run_bind, h1, Result.andThen_ok]
    cases hq : kEq k e.key with
    | true => simp [fndE, fnd, hq]
    | false =>
      simp only [Bool.false_eq_true, if_false, ih]
      congr 1
      simp only [fndE, List.map_cons, fnd, hq]
      cases fnd k (es.map (·.key)) with
      | none => rfl
      | some n => simp; omega
theorem findNow_flat {d : TypeDesc} {k : Value} (hs : ∀ e : Value, isKey P K sh e = true → Instr.sameNow d k e = some (kEq k e)) : ∀ (es : List MapEntry) (i : Nat), (∀ e ∈ es, isKey P K sh e.key = true) → Instr.findNow d k es i = some ((fndE k es).map fun x => (i + x.1, x.2))
  | [], i, _ => by simp [Instr.findNow, fndE, fnd]
  | e :: es, i, h => by
    have ih := findNow_flat hs es (i + 1) fun x hx => h x (by simp [hx])
    simp only [Instr.findNow, hs e.key (h e (by simp))]
    cases hq : kEq k e.key with
    | true => simp [fndE, fnd, hq]
    | false =>
      dsimp only
      rw [ih]
      congr 1
      simp only [fndE, List.map_cons, fnd, hq]
      cases fnd k (es.map (·.key)) with
      | none => rfl
      | some n => simp; omega
theorem run_findKey_flat {k : Value} {es : List MapEntry} (hf : flatT P 9 K = some sh) (hk : isKey P K sh k = true) (h : ∀ e ∈ es, isKey P K sh e.key = true) : (Instr.findKey K k es).run P w = .ok (fndE k es) w := by
  have hid : (fndE k es).map (fun x => (0 + x.1, x.2)) = fndE k es := by cases fndE k es <;> simp
  cases hu : P.underlying K with
  | none => simp [flatT, hu] at hf
  | some d =>
    cases hA : aggT P K with
    | true =>
      have hd : ∀ a b : Value, Instr.sameNow d a b = none := by
        unfold aggT at hA
        rw [hu] at hA
        intro a b
        cases d <;> simp at hA <;> rfl
      cases es with
      | nil => simp [Instr.findKey, run_underlying hu, Result.andThen, Instr.findNow, fndE, fnd]
      | cons e es =>
        have h0 : Instr.findNow d k (e :: es) 0 = none := by simp [Instr.findNow, hd]
        have := run_findAsking_flat (w := w) hf hk (e :: es) 0 h
        rw [hid] at this
        simp [Instr.findKey, run_underlying hu, Result.andThen, h0, this]
    | false =>
      have hs : ∀ e : Value, isKey P K sh e = true → Instr.sameNow d k e = some (kEq k e) := fun e he => by
        unfold isKey at hk he
        rw [hA] at hk he
        unfold flatT at hf
        rw [hu] at hf
        unfold aggT at hA
        rw [hu] at hA
        cases d <;> simp at hf hA
        all_goals
          subst hf
          cases k <;> simp [shC, shC1] at hk
          cases e <;> simp [shC, shC1] at he
        · rfl
        · subst hk; subst he; simp [Instr.sameNow, kEq, eqV1]
        · simp only [Instr.sameNow, kEq, eqV1]
          congr 1
          rename_i a b
          rw [ByteArray.toList_eq, ByteArray.toList_eq]
          exact ba_beq _ _
      have := findNow_flat hs es 0 h
      rw [hid] at this
      exact MapKept.run_findKey hu this
theorem run_checkKey_flat (em : Bool) : ∀ (d n : Nat) (t : TypeId) (sh : List Sh) (cs : List Value) (w : World), flatT P d t = some sh → shC sh cs = true → (Instr.checkKey em (n + d) t (valT P t cs)).run P w = .ok () w
  | 0, _, _, _, _, _, h, _ => by simp [flatT] at h
  | d + 1, n, t, sh, cs, w, h, hc => by
    unfold flatT at h
    have two : ∀ {h0 : Sh}, sh = [h0] → ∃ v, cs = [v] ∧ shC1 h0 v = true := by
      intro h0 hs
      subst hs
      have l1 := shC_length hc
      obtain ⟨v, rfl⟩ := List.length_eq_one_iff.1 l1
      exact ⟨v, rfl, by simpa [shC] using hc⟩
    rw [← Nat.add_assoc, Instr.checkKey]
    split at h <;> try cases h
    · rename_i hu
      obtain ⟨v, rfl, h1⟩ := two rfl
      cases v <;> simp [shC1] at h1
      simp [valT, aggT, hu, run_underlying hu, Result.andThen_ok, Sem.run_bind]
    · rename_i q hu
      obtain ⟨v, rfl, h1⟩ := two rfl
      cases v <;> simp [shC1] at h1
      simp [valT, aggT, hu, run_underlying hu, Result.andThen_ok, Sem.run_bind]
    · rename_i hu
      obtain ⟨v, rfl, h1⟩ := two rfl
      cases v <;> simp [shC1] at h1
      simp [valT, aggT, hu, run_underlying hu, Result.andThen_ok, Sem.run_bind]
    · rename_i m e hu
      split at h <;> try cases h
      rename_i sh0 hf
      split at h <;> cases h
      rename_i hn
      have hn := Nat.eq_of_beq_eq_true hn
      have hA : aggT P t = true := by unfold aggT; rw [hu]
      obtain ⟨i, hi⟩ : ∃ i, P.info? e = some i := by
        cases d with
        | zero => simp [flatT] at hf
        | succ d =>
          cases hu2 : P.underlying e with
          | none => simp [flatT, hu2] at hf
          | some kd => exact info_of_underlying hu2
      rw [valT_agg hA]
      simp only [Sem.run_bind, run_underlying hu, Result.andThen_ok]
      simp only [Std.Legacy.Range.forIn_eq_forIn_range', Std.Legacy.Range.size, Nat.sub_zero, Nat.add_one_sub_one, Nat.div_one]
      have key : ∀ (m k : Nat), shC (repS sh0 m) (cs.drop (k * sh0.length)) = true → ∀ b : PUnit, (forIn (List.range' k m) b fun i _ => (do
          let sz ← sizeOf e
          let v ← part e cs.toArray (i * sz)
          Instr.checkKey em (n + d) e v
          pure (ForInStep.yield PUnit.unit) : Sem (ForInStep PUnit))).run P w = .ok PUnit.unit w := by
        intro m
        induction m with
        | zero => intro k _ b; simp
        | succ m ih =>
          intro k hk b
          obtain ⟨a1, a2⟩ := shC_split (a := sh0) (b := repS sh0 m) hk
          rw [List.drop_drop, show k * sh0.length + sh0.length = (k + 1) * sh0.length by rw [Nat.add_mul]; omega] at a2
          have p1 := run_part_flat hf hn w cs (k * sh0.length) a1
          have p2 := run_checkKey_flat em d n e sh0 _ w hf a1
          rw [List.range'_succ]
          simp only [List.forIn_cons, Sem.run_bind, run_sizeOf w hi, Result.andThen_ok, hn, p1, p2, Sem.run_pure]
          exact ih (k + 1) a2 _
      rw [key m 0 (by simpa using hc) PUnit.unit]
      rfl
    · rename_i fs hu
      split at h <;> try cases h
      have hA : aggT P t = true := by unfold aggT; rw [hu]
      rw [valT_agg hA]
      simp only [Sem.run_bind, run_underlying hu, Result.andThen_ok]
      rw [← Array.forIn_toList]
      generalize fs.toList = L at h
      have hc0 : shC sh (cs.drop 0) = true := by simpa using hc
      clear hc two
      revert h hc0
      generalize 0 = off
      intro h hc0
      induction L generalizing off sh with
      | nil => simp
      | cons x L ih =>
        unfold flatFs at h
        split at h <;> try cases h
        rename_i sx hx hfx
        split at h <;> try cases h
        rename_i r hr
        split at hfx <;> try cases hfx
        rename_i sx' hfx'
        split at hfx <;> cases hfx
        rename_i hcl
        simp only [Bool.and_eq_true, bne_iff_ne, ne_eq] at hx
        obtain ⟨hnm, hof⟩ := hx
        have hof : x.offset = off := Nat.eq_of_beq_eq_true hof
        obtain ⟨a1, a2⟩ := shC_split hc0
        rw [List.drop_drop] at a2
        have p1 := run_part_flat hfx' (Nat.eq_of_beq_eq_true hcl) w cs off a1
        have p2 := run_checkKey_flat em d n x.type sx _ w hfx' a1
        simp only [List.forIn_cons, Sem.run_bind, hnm, ne_eq, not_false_eq_true, if_true, Result.andThen_ok, hof, p1, p2, Sem.run_pure]
        exact ih _ _ hr a2
theorem run_check {k : Value} (em : Bool) (hf : flatT P 9 K = some sh) (hk : isKey P K sh k = true) : (Instr.checkKey em 10000 K k).run P w = .ok () w := by
  obtain ⟨cs, rfl, h⟩ := isKey_val hk
  exact run_checkKey_flat em 9 9991 K sh cs w hf h
theorem sameBits1 {h : Sh} {v : Value} (n : Nat) (hs : shC1 h v = true) : Instr.sameBits n v v = true := by
  have hb : ∀ s : ByteArray, (s == s) = true := fun s => by rw [ba_beq]; simp
  cases h <;> cases v <;> simp [shC1] at hs <;> (cases n <;> simp [Instr.sameBits, hb])
theorem run_stays {k : Value} (hk : isKey P K sh k = true) : (Instr.keyThatStays k k).run P w = .ok k w := by
  have : Instr.sameBits 10000 k k = true := by
    unfold isKey at hk
    split at hk
    · split at hk
      · rename_i cs
        rw [show (10000 : Nat) = 9999 + 1 from rfl, Instr.sameBits]
        simp only [beq_self_eq_true, Bool.true_and, List.all_eq_true]
        have key : ∀ {sh : List Sh} {l : List Value}, shC sh l = true → ∀ x ∈ l.zip l, Instr.sameBits 9999 x.1 x.2 = true := by
          intro sh
          induction sh with
          | nil => intro l h x hx; cases l <;> simp [shC] at h; simp at hx
          | cons h0 sh ih =>
            intro l h x hx
            cases l with
            | nil => simp [shC] at h
            | cons v l =>
              simp only [shC, Bool.and_eq_true] at h
              simp only [List.zip_cons_cons, List.mem_cons] at hx
              rcases hx with rfl | hx
              · exact sameBits1 _ h.1
              · exact ih h.2 x hx
        exact key hk
      · cases hk
    · split at hk
      · cases hk
      · cases sh with
        | nil => simp [shC] at hk
        | cons h0 sh =>
          simp only [shC, Bool.and_eq_true] at hk
          exact sameBits1 _ hk.1
  simp [Instr.keyThatStays, this]
end
/-! a map's entries -/
section
variable {es : Array MapEntry} {clock : Nat} {ks us : List Value}
theorem MapIn.kl (h : MapIn es clock ks us) : ks.length = es.size ∧ us.length = es.size := by
  rw [← h.ky, ← h.vl]; simp
theorem MapIn.nil : MapIn #[] 0 [] [] := ⟨rfl, rfl, by simp, fun e he => by simp at he⟩
theorem MapIn.push (h : MapIn es clock ks us) (k v : Value) : MapIn (es.push ⟨k, v, clock⟩) (clock + 1) (ks ++ [k]) (us ++ [v]) := by
  refine ⟨by simp [h.ky], by simp [h.vl], ?_, fun e he => ?_⟩
  · rw [Array.toList_push, List.map_append, List.pairwise_append]
    refine ⟨h.st, by simp, fun a ha b hb => ?_⟩
    simp at hb; subst hb
    obtain ⟨e, he, rfl⟩ := List.mem_map.1 ha
    exact h.ck e he
  · simp at he
    rcases he with he | rfl
    · have := h.ck e (by simpa using he); omega
    · simp
theorem MapIn.mod (h : MapIn es clock ks us) {n : Nat} {e : MapEntry} (hn : es[n]? = some e) (v : Value) (f : MapEntry → MapEntry) (hf : f e = { e with val := v }) : MapIn (es.modify n f) clock ks (us.set n v) := by
  have hl : (es.modify n f).toList = es.toList.set n { e with val := v } := by
    rw [Array.toList_modify]
    apply List.ext_getElem?
    intro i
    rw [List.getElem?_modify, List.getElem?_set]
    by_cases hi : n = i
    · subst hi
      have : es.toList[n]? = some e := by simpa using hn
      have hlt := (List.getElem?_eq_some_iff.1 this).1
      rw [this]; simp only [if_true, if_pos hlt]; exact congrArg some hf
    · simp [hi]
  refine ⟨?_, ?_, ?_, fun x hx => ?_⟩
  · rw [hl, List.map_set, h.ky]
    have h1 : ks[n]? = some e.key := by rw [← h.ky]; simp [hn]
    apply List.ext_getElem?
    intro i
    rw [List.getElem?_set]
    split
    · rename_i hi; subst hi
      rw [if_pos (List.getElem?_eq_some_iff.1 h1).1, h1]
    · rfl
  · rw [hl, List.map_set, h.vl]
  · rw [hl, List.map_set]
    have h1 : (es.toList.map (·.born))[n]? = some e.born := by simp [hn]
    have e2 : (es.toList.map (·.born)).set n e.born = es.toList.map (·.born) := by
      apply List.ext_getElem?
      intro i
      rw [List.getElem?_set]
      split
      · rename_i hi; subst hi
        rw [if_pos (List.getElem?_eq_some_iff.1 h1).1, h1]
      · rfl
    rw [e2]; exact h.st
  · rw [hl] at hx
    rcases List.mem_or_eq_of_mem_set hx with hx | rfl
    · exact h.ck x hx
    · exact h.ck e (by simpa using Array.mem_of_getElem? hn)
theorem MapIn.erase (h : MapIn es clock ks us) (n : Nat) : MapIn (es.eraseIdxIfInBounds n) clock (ks.eraseIdx n) (us.eraseIdx n) := by
  have hsub : (es.eraseIdxIfInBounds n).toList = es.toList.eraseIdx n := by
    unfold Array.eraseIdxIfInBounds
    split
    · simp
    · rename_i hn
      rw [List.eraseIdx_of_length_le (by simpa using hn)]
  refine ⟨?_, ?_, ?_, fun x hx => ?_⟩
  · rw [hsub, ← h.ky, Go.ChangeMaps.map_eraseIdx]
  · rw [hsub, ← h.vl, Go.ChangeMaps.map_eraseIdx]
  · rw [hsub, Go.ChangeMaps.map_eraseIdx]
    exact h.st.sublist (List.eraseIdx_sublist _ _)
  · rw [hsub] at hx
    exact h.ck x ((List.eraseIdx_sublist _ _).subset hx)
/-- a stamp tells its entry -/
theorem MapIn.born (h : MapIn es clock ks us) {n : Nat} {e : MapEntry} (hn : es[n]? = some e) : es.findIdx? (fun x => (x.born : Int) == (e.born : Int)) = some n := by
  rw [Array.findIdx?_eq_some_iff_getElem]
  obtain ⟨hlt, he⟩ := Array.getElem?_eq_some_iff.1 hn
  refine ⟨hlt, by simp [he], fun j hj => ?_⟩
  have := List.pairwise_iff_getElem.1 h.st j n (by simp; omega) (by simpa using hlt) hj
  simp at this
  rw [he] at this
  simp; omega
end
end Go.Proofs.Ytkkabbdmfepbiaa

namespace Go.Proofs.Ytkkabbdmfepbiaa
set_option linter.unusedVariables false
set_option linter.unusedSimpArgs false
open Go.RowKit
set_option maxRecDepth 100000
/-- where a field of one cell lies -/
def fieldOff (P : Program) (T : TypeId) (n : Nat) : Option Nat := match P.underlying T with
  | some (.struct fs) => match fs[n]? with
    | some f => match P.underlying f.type, aggT P f.type with
      | some _, false => some f.offset
      | _, _ => none
    | none => none
  | _ => none
theorem run_fieldv {P : Program} {T : TypeId} {n off : Nat} {vs : List Value} {v : Value} (h : fieldOff P T n = some off) (hv : vs[off]? = some v) (w : World) : (Instr.field T (.agg vs.toArray) n).run P w = .ok v w := by
  unfold fieldOff at h
  split at h <;> try cases h
  rename_i fs hu
  split at h <;> try cases h
  rename_i f hf
  split at h <;> try cases h
  rename_i kd hk hA
  have hi : (isAgg f.type).run P w = .ok false w := by
    unfold aggT at hA
    rw [hk] at hA
    cases kd <;> simp at hA <;> simp [isAgg, Sem.run_bind, run_underlying hk, Result.andThen_ok]
  simp [Instr.field, Sem.run_bind, run_underlying hu, Result.andThen_ok, hf, part, hi, asAgg, hv]
theorem pq_fieldv {X : Cx} {s : AS} {o : Oper} {T : TypeId} {n off : Nat} {x : Operand} {l : List AV} {av : AV} (ho : o.op = .field T x n) (hx : aev s x = .ag l) (hf : fieldOff Try.prog T n = some off) (hl : l[off]? = some av) : Pq Try.prog X s o av := .of_run fun X φ κ f a w hs => by
  have h1 := hs.evs hx
  generalize hv : a.eval x = v at h1
  cases h1 with
  | ag hc _ =>
    obtain ⟨u, hu, hr⟩ := hc.at_ hl
    refine ⟨u, hr, fun w' _ => ?_⟩
    simp only [execOp, ho, hv, Sem.run_bind, run_fieldv hf hu w']
    simp [go_sem]
theorem AP.FV {X : Cx} {s : AS} {ops : Array Oper} {rest : List Oper} {Q : Exit → AS → Prop} {T : TypeId} {n off z : Nat} {x : Operand} {l : List AV} {av : AV} {d : Option Nat} {ty : Nat} {pos : String} {aft : Array Edge} {i : TI} {fl : List (Nat × Nat)} (K : AP Try.prog X ops Q rest (s.put d av)) (hx : aev s x = .ag l := by exact rfl) (hT : tt[T]? = some i := by exact rfl) (hk : i.kd = .st fl := by exact rfl) (hn : fl[n]? = some (off, z) := by exact rfl) (hf : fieldOff Try.prog T n = some off := by kernel_rfl) (hl : l[off]? = some av := by exact rfl) : AP Try.prog X ops Q (⟨d, .field T x n, ty, pos, aft, none⟩ :: rest) s :=
  AP.pure rfl (pq_fieldv rfl hx hf hl) K
end Go.Proofs.Ytkkabbdmfepbiaa

namespace Go.Proofs.Ytkkabbdmfepbiaa
set_option linter.unusedVariables false
set_option linter.unusedSimpArgs false
open Go.RowKit
set_option maxRecDepth 100000
theorem RC.app {w : World} {φ : Fi} {κ : Ka} {R : Nat → Prop} : ∀ {l m : List AV} {us vs : List Value}, RC w φ κ R l us Ct.z → RC w φ κ R m vs Ct.z → RC w φ κ R (l ++ m) (us ++ vs) Ct.z
  | [], m, us, vs, h, k => by cases h; exact k
  | a :: l, m, us, vs, h, k => by
    cases h with
    | cons h1 h2 h3 =>
      obtain ⟨rfl, rfl⟩ := Ct.split h3
      exact .cons (S := Ct.z) (T := Ct.z) h1 (RC.app h2 k) fun _ => rfl
theorem RE.flat {w : World} {φ : Fi} {κ : Ka} {R : Nat → Prop} {k : Nat} : ∀ {s : List (List AV)} {us : List Value}, RE w φ κ R k s us Ct.z → RC w φ κ R s.flatten us Ct.z ∧ (∀ u ∈ us, u.oneCell' = true) ∧ ∀ x ∈ s.flatten, x.leaf = true
  | [], us, h => by cases h; exact ⟨.nil, by simp, by simp⟩
  | c :: s, us, h => by
    cases h with
    | cons h1 h2 h3 h4 h5 =>
      obtain ⟨rfl, rfl⟩ := Ct.split h5
      obtain ⟨a, b, d⟩ := RE.flat h4
      refine ⟨by rw [List.flatten_cons]; exact RC.app h1 a, fun u hu => (List.mem_append.1 hu).elim (h3.1 u) (b u), fun x hx => ?_⟩
      rw [List.flatten_cons] at hx
      exact (List.mem_append.1 hx).elim (h3.2 x) (d x)
section
variable {X : Cx} {s : AS} {o : Oper} {ops : Array Oper} {rest : List Oper} {Q : Exit → AS → Prop} {Qa : AS → Prop}
end
section
variable {X : Cx} {s : AS} {o : Oper} {ops : Array Oper} {rest : List Oper} {Q : Exit → AS → Prop} {av : AV}
/-- a store at a number that is reckoned -/
theorem AP.TB {T T' : TypeId} {x y : Operand} {b u off : Nat} {l : List AV} {i : TI} (K : AP Try.prog X ops Q rest (AS.put ⟨s.t, s.b.set b ⟨u, .c T' (spl l off av.cells)⟩⟩ o.dst (.tu []))) (hg : o.guard = none := by exact rfl) (ho : o.op = .store T x y := by exact rfl) (hx : aev s x = .bp b u off := by exact rfl) (hs : s.b[b]? = some ⟨u, .c T' l⟩ := by exact rfl) (hy : aev s y = av := by exact rfl) (hk : av.known = true := by exact rfl)
    (hT : tt[T]? = some i := by exact rfl) (hn : av.cells.length = i.size := by exact rfl) (hl : off + i.size ≤ l.length := by first | omega | (simp; omega)) : AP Try.prog X ops Q (o :: rest) s :=
  ap_store hg ho hx hs hy hk hT hn (by rw [Nat.ble_eq]; exact hl) K
/-- a load there -/
theorem AP.LB {T T' : TypeId} {x : Operand} {b u off : Nat} {l : List AV} {i : TI} {d : Option Nat} {ty : Nat} {pos : String} {aft : Array Edge} (K : AP Try.prog X ops Q rest (s.put d av)) (hx : aev s x = .bp b u off := by exact rfl) (hs : s.b[b]? = some ⟨u, .c T' l⟩ := by exact rfl) (hT : tt[T]? = some i := by exact rfl) (hk : rowK i.kd = false := by exact rfl) (hl : l[off]? = some av := by assumption) : AP Try.prog X ops Q (⟨d, .load T x, ty, pos, aft, none⟩ :: rest) s :=
  AP.pure rfl (pq_load1 rfl hx hs hT hk hl) K
end
end Go.Proofs.Ytkkabbdmfepbiaa

namespace Go.Proofs.Ytkkabbdmfepbiaa
set_option linter.unusedVariables false
set_option linter.unusedSimpArgs false
open Go.RowKit
set_option maxRecDepth 100000
theorem run_boundsA {n l h : Nat} {lo hi : Option Value} (hlo : lo = none ∧ l = 0 ∨ ∃ k, lo = some (.int k l)) (hhi : hi = none ∧ h = n ∨ ∃ k, hi = some (.int k h)) (h1 : l ≤ h) (h2 : h ≤ n) (w : World) :
    (Instr.sliceBounds false n n lo hi none).run Try.prog w = .ok (l, h, n) w := by
  have hb : ∀ (k : IntKind) (x y : Nat) (code : BoundsCode), x ≤ y → (Instr.sliceBound (.int k x) y code).run Try.prog w = .ok x w := by
    intro k x y code hxy
    simp [Instr.sliceBound, asIntOf, hxy, go_sem]
  rcases hhi with ⟨rfl, rfl⟩ | ⟨kh, rfl⟩ <;> rcases hlo with ⟨rfl, rfl⟩ | ⟨kl, rfl⟩
  all_goals (unfold Instr.sliceBounds; simp only [Sem.run_bind, hb _ _ _ _ h1, hb _ _ _ _ h2, Result.andThen_ok, Sem.run_pure]; first | rfl | skip)
section
variable {X : Cx} {φ φ' : Fi} {κ κ' : Ka} {f : Nat → Ct} {L L' : Ct} {s s' : AS} {a : Act} {w w' : World} {o : Oper} {ops : Array Oper} {rest : List Oper} {Q : Exit → AS → Prop} {av : AV} {d : Option Nat} {ty : Nat} {pos : String} {aft : Array Edge}
theorem run_slice_arr {T e N l h g off : Nat} {i ie : TI} {lo hi : Option Value} (hT : tt[T]? = some i) (hk : i.kd = .ar N e) (he : tt[e]? = some ie) (hb : ∀ w, (Instr.sliceBounds false N N lo hi none).run Try.prog w = .ok (l, h, N) w) (hlN : l = 0 ∨ l < N) (w : World) :
    (Instr.sliceAt T (.pointer (some ⟨g, off, none⟩)) lo hi none).run Try.prog w = .ok (.slice (some ⟨g, off + l * ie.size, none⟩) (h - l) (N - l)) w := by
  have hu := ty_ar hT hk
  have hadd : (if N = l then (⟨g, off, none⟩ : Addr) else (⟨g, off, none⟩ : Addr).add (l * ie.size)) = ⟨g, off + l * ie.size, none⟩ := by
    rcases hlN with rfl | hlN
    · split <;> simp [Addr.add]
    · rw [if_neg (by omega)]
      simp only [Addr.add]; split <;> simp_all
  simp only [Instr.sliceAt, Sem.run_bind, run_underlying hu, Result.andThen_ok, Instr.sureAddr, Sem.run_pure, hb, ty_size he, hadd]
theorem pq_slice_arr {T e N l h b u off : Nat} {x : Operand} {lo hi : Option Operand} {i ie : TI} (ho : o.op = .slice T x lo hi none) (hx : aev s x = .bp b u off) (hT : tt[T]? = some i) (hk : i.kd = .ar N e) (he : tt[e]? = some ie)
    (hlo : Bd s lo 0 l) (hhi : Bd s hi N h) (h1 : l ≤ h) (h2 : h ≤ N) (hN : N ≤ 1000000) (hlN : l = 0 ∨ l < N) : Pq Try.prog X s o (.sb b u ie.size (off + l * ie.size) (h - l) (N - l)) := .of_run fun X φ κ f a w hs => by
  have hv := hs.evs hx
  generalize hp : a.eval x = v at hv
  cases hv with
  | @bp _ _ _ g hg =>
    have hb := fun w => run_boundsA (n := N) (l := l) (h := h) (lo := lo.map a.eval) (hi := hi.map a.eval) (by simpa using Bd.lo (h0 := hs) hlo) (Bd.lo (h0 := hs) hhi) h1 h2 w
    refine ⟨_, .sb hg (by omega) (by unfold maxLen; omega), fun w' _ => ?_⟩
    have := run_slice_arr (g := g) (off := off) hT hk he hb hlN w'
    simp only [execOp, ho, hp, Option.map_none, Sem.run_bind, this]; rfl
theorem AP.SV {T e N : Nat} {x : Operand} {lo hi : Option Operand} {l h : Int} {b u off : Nat} {i ie : TI} (K : AP Try.prog X ops Q rest (s.put d (.sb b u ie.size (off + l.toNat * ie.size) (h.toNat - l.toNat) (N - l.toNat)))) (hx : aev s x = .bp b u off := by exact rfl) (hT : tt[T]? = some i := by exact rfl) (hk : i.kd = .ar N e := by exact rfl) (he : tt[e]? = some ie := by exact rfl)
    (hl : bdv s 0 lo = some l := by exact rfl) (hh : bdv s N hi = some h := by exact rfl) (hp : 0 ≤ l ∧ l ≤ h ∧ h ≤ N ∧ l < N ∧ N ≤ 1000000 := by ((repeat' (with_reducible apply And.intro)) <;> (first | exact True.intro | exact rfl | omega | decide | (simp; omega) | (simp; done) | assumption | exact .inl rfl | (refine .inr ?_; simp; try omega)))) : AP Try.prog X ops Q (⟨d, .slice T x lo hi none, ty, pos, aft, none⟩ :: rest) s :=
  AP.pure rfl (pq_slice_arr rfl hx hT hk he (bd_of (d := 0) hl hp.1) (bd_of hh (by omega)) (by omega) (by omega) hp.2.2.2.2 (.inr (by omega))) K
/-- a variable of one's own becomes what may be read -/
theorem SatW.frzC (h : SatW X φ κ f L s a w) {j u : Nat} {T : TypeId} {l : List AV} (hj : s.b[j]? = some ⟨u, .c T l⟩) :
    ∃ X' g vs, X.le X' ∧ φ j u = some g ∧ w.heap[g]? = some (.cells vs.toArray T (0, 0)) ∧ X'.R g ∧ RC w φ κ X'.R l vs Ct.z ∧ (∀ v ∈ vs, v.oneCell' = true) ∧ SatW X' φ κ (updF f j Ct.z) L ⟨s.t, s.b.set j ⟨u, .x⟩⟩ a w := by
  obtain ⟨hrs, ht⟩ := h.take hj .x fun _ _ => .x
  generalize hF : f j = F at hrs ht
  cases hrs with
  | @c _ _ vs g _ hφ hh hc h1 hS =>
    have hgr : ∀ x, F x ≠ 0 → x < w.heap.size ∧ (X.S0 x ≠ 0 ∨ X.w0.heap.size ≤ x) ∧ sumF (updF f j Ct.z) (s.b.set j ⟨u, .x⟩).length x + L x = 0 := fun x hx => by
      have h1 := ht.own x (by dsimp only; omega)
      have h2 := ht.one x
      dsimp only at h2
      exact ⟨h1.1, h1.2, by omega⟩
    refine ⟨X.gr (fun x => X.R x ∨ F x ≠ 0), g, vs, Cx.le_gr (fun x hx => .inl hx) (fun x hx => hx.imp id fun h0 => (hgr x h0).2.1), hφ, hh, .inr (by rw [hS]; simp), RC.hist (fun _ _ _ h => h) (fun _ _ _ h => h) (fun _ h => .inl h) hc, h1, ?_⟩
    refine SatW.grow (ht.drop fun x => by (try dsimp only); omega) (fun x hx => .inl hx) (fun x hx => ?_) (fun x hx => hx.imp id fun h0 => (hgr x h0).2.1)
    rcases hx with hx | hx
    · have := ht.rd x hx; dsimp only at this ⊢; exact ⟨this.1, by omega⟩
    · exact ⟨(hgr x hx).1, (hgr x hx).2.2⟩
theorem RC.ones {R : Nat → Prop} : ∀ {l : List AV} {vs : List Value}, RC w φ κ R l vs Ct.z → (∀ v ∈ vs, v.oneCell' = true) → (∀ x ∈ l, x.leaf = true) → RE w φ κ R 1 (l.map fun a => [a]) vs Ct.z
  | _, _, .nil, _, _ => .nil
  | _, _, .cons (a := a) (v := v) h1 h2 h3, ho, hl => by
    obtain ⟨rfl, rfl⟩ := Ct.split h3
    exact .cons (S := Ct.z) (T := Ct.z) (us := [v]) (.cons (S := Ct.z) (T := Ct.z) h1 .nil fun _ => rfl) rfl ⟨fun u hu => ho u (by simp at hu; simp [hu]), fun x hx => hl x (by simp at hx; simp [hx])⟩ (RC.ones h2 (fun v hv => ho v (by simp [hv])) fun x hx => hl x (by simp [hx])) fun _ => rfl
/-- a whole array, as a slice that may be read; the variable is of no more use -/
theorem AP.SF {T T' e N : Nat} {x : Operand} {b u d' : Nat} {i ie : TI} {l : List AV} (K : AP Try.prog X ops Q rest ⟨s.t.set d' (.sl none 1 (l.map fun a => [a])), s.b.set b ⟨u, .x⟩⟩) (hx : aev s x = .bp b u 0 := by exact rfl) (hs : s.b[b]? = some ⟨u, .c T' l⟩ := by exact rfl) (hT : tt[T]? = some i := by exact rfl) (hk : i.kd = .ar N e := by exact rfl) (he : tt[e]? = some ie := by exact rfl)
    (hsz : Nat.beq ie.size 1 = true := by exact rfl) (hl : Nat.beq l.length N = true := by first | exact rfl | (rw [Nat.beq_eq_true_eq]; simp; done) | (rw [Nat.beq_eq_true_eq]; simp; omega)) (hN : Nat.ble N 1000000 = true := by exact rfl) (hlf : ∀ x ∈ l, x.leaf = true := by first | exact List.all_eq_true.1 rfl | (intro x hx; simp at hx; obtain ⟨y, _, rfl⟩ := hx; rfl)) : AP Try.prog X ops Q (⟨some d', .slice T x none none none, ty, pos, aft, none⟩ :: rest) s :=
  .runG rfl (fun X φ κ f a w h => by
    have hsz := Nat.eq_of_beq_eq_true hsz
    have hl := Nat.eq_of_beq_eq_true hl
    have hN := Nat.le_of_ble_eq_true hN
    obtain ⟨X1, g, vs, hX1, hφ, hh, hRg, hc, h1, h2⟩ := h.frzC hs
    have hv := h.evs hx
    generalize hp : a.eval x = v at hv
    cases hv with
    | bp hg =>
      rw [hφ] at hg; injection hg with hg; subst hg
      have hb := fun w => run_boundsA (n := N) (l := 0) (h := N) (lo := none) (hi := none) (.inl ⟨rfl, rfl⟩) (.inl ⟨rfl, rfl⟩) (Nat.zero_le _) (Nat.le_refl _) w
      have hrun := run_slice_arr (g := g) (off := 0) hT hk he hb (.inl rfl) w
      have hlen : (l.map fun a => [a]).length = N := by simp [hl]
      have hrv : RV w φ κ X1.R (.sl none 1 (l.map fun a => [a])) (.slice (some ⟨g, 0, none⟩) (l.map fun a => [a]).length N) Ct.z := .ro (RC.ones hc h1 hlf) (by omega) (by unfold maxLen; omega) (fun _ => hRg) fun j u hj => by
        rw [cell_of_row w g (0 + j) vs.toArray T' (0, 0) hh]; simpa using hj
      rw [hlen] at hrv
      refine ⟨X1, _, w, φ, κ, _, hX1, ?_, h2.puts (some d') hrv⟩
      simp only [execOp, hp, Option.map_none, Sem.run_bind, hrun]
      simp [go_sem]) K
/-- a variable's cells become others -/
theorem SatW.rebox (h : SatW X φ κ f Ct.z s a w) {b u g : Nat} {T' : TypeId} {l l' : List AV} {vs vs' : List Value} (hs : s.b[b]? = some ⟨u, .c T' l⟩) (hφ : φ b u = some g) (hh : w.heap[g]? = some (.cells vs.toArray T' (0, 0))) (hrc : RC w φ κ X.R l' vs' Ct.z) (h1 : ∀ v ∈ vs', v.oneCell' = true) :
    ∃ f', SatW X φ κ f' Ct.z ⟨s.t, s.b.set b ⟨u, .c T' l'⟩⟩ a (w.setRow g vs'.toArray) := by
  have hS := h.sl b _ hs
  have hb : b < s.b.length := (List.getElem?_eq_some_iff.1 hs).1
  have hf : ∀ x, f b x = if x = g then 1 else 0 := by
    generalize f b = F at hS
    cases hS with
    | c hφ' _ _ _ hSx => rw [hφ] at hφ'; injection hφ' with e; subst e; exact hSx
  have hgl : g < w.heap.size := (Array.getElem?_eq_some_iff.1 hh).1
  refine ⟨updF f b (fun x => if x = g then 1 else 0), ?_⟩
  refine h.turn (w' := w.setRow g vs'.toArray) hs (fun _ _ _ h => h) (fun _ _ _ h => h) (by simp [World.setRow]) rfl rfl rfl ?_ ?_ (g := fun x => if x = g then 1 else 0) (L' := Ct.z) ?_ ?_ (Nat.le_refl _) (fun _ _ _ h => h) (fun _ _ _ h => h)
  · intro x hx h0
    have := hf x
    have hne : x ≠ g := by rintro rfl; simp at this; omega
    exact setRow_other w g x _ hne
  · have hR : ∀ x, X.R x → (w.setRow g vs'.toArray).heap[x]? = w.heap[x]? := fun x hx => by
      have h3 := h.not_rd hx
      have h4 := sumF_le f x _ b hb
      have h5 := hf x
      have hne : x ≠ g := by rintro rfl; simp at h5; omega
      exact setRow_other w g x _ hne
    exact .c hφ (setRow_heap w g _ vs'.toArray T' _ hh) (RC.keep hR hrc fun x hx => absurd rfl hx) h1 fun _ => rfl
  · intro x hx; have := hf x; simp only [Ct.z]; omega
  · intro x hx; simp only [Ct.z]; split
    · omega
    · simp
/-- cells over others -/
def cpy {α : Type} (l : List α) (o : Nat) (r : List α) : List α := l.take o ++ r ++ l.drop (o + r.length)
theorem RC.take_ {R : Nat → Prop} {l : List AV} {us : List Value} (h : RC w φ κ R l us Ct.z) (m : Nat) : RC w φ κ R (l.take m) (us.take m) Ct.z := by simpa using h.drop_ 0 m
theorem RC.dropA {R : Nat → Prop} {l : List AV} {us : List Value} (h : RC w φ κ R l us Ct.z) (n : Nat) : RC w φ κ R (l.drop n) (us.drop n) Ct.z := by
  have := h.drop_ n l.length
  rwa [List.take_of_length_le (by simp), List.take_of_length_le (by simp [h.length])] at this
theorem RC.cpy {R : Nat → Prop} {l r : List AV} {us vs : List Value} (h : RC w φ κ R l us Ct.z) (k : RC w φ κ R r vs Ct.z) (o : Nat) : RC w φ κ R (cpy l o r) (cpy us o vs) Ct.z := by
  unfold Go.Proofs.Ytkkabbdmfepbiaa.cpy
  rw [k.length]
  exact ((h.take_ o).append k (fun _ => rfl)).append (h.dropA _) (fun _ => rfl)
theorem cpy_one {us vs : List Value} (o : Nat) (h : ∀ v ∈ us, v.oneCell' = true) (k : ∀ v ∈ vs, v.oneCell' = true) : ∀ v ∈ cpy us o vs, v.oneCell' = true := fun v hv => by
  unfold cpy at hv
  rcases List.mem_append.1 hv with hv | hv
  · rcases List.mem_append.1 hv with hv | hv
    · exact h v (List.mem_of_mem_take hv)
    · exact k v hv
  · exact h v (List.mem_of_mem_drop hv)
/-- copy into a variable's cells -/
theorem ap_copyv {T T1 T' e : Nat} {x y : Operand} {b u off n c : Nat} {l : List AV} {r : List AV} {i ie : TI} {sl : Nat} (hg : o.guard = none) (ho : o.op = .call { callee := .builtin .copy, args := #[x, y], argTypes := #[T, T1] }) (hx : aev s x = .sb b u 1 off n c) (hs : s.b[b]? = some ⟨u, .c T' l⟩) (hT : tt[T]? = some i) (hk : i.kd = .sl e) (he : tt[e]? = some ie) (hsz : ie.size = 1)
    (hfit : off + n ≤ l.length)
    (hsrc : ∀ X φ κ f a w, SatW X φ κ f Ct.z s a w → ∃ A cs sc, a.eval y = .slice (some A) sl sc ∧ RC w φ κ X.R r cs Ct.z ∧ cs.length = min sl n ∧ (∀ v ∈ cs, v.oneCell' = true) ∧ ∀ j v, cs[j]? = some v → w.cell? (A.add j) = some v)
    (K : AP Try.prog X ops Q rest (AS.put ⟨s.t, s.b.set b ⟨u, .c T' (cpy l off r)⟩⟩ o.dst (.sc (.int .i64 ((min sl n : Nat) : Int))))) : AP Try.prog X ops Q (o :: rest) s :=
  .run hg (fun X φ κ f a w h => by
    obtain ⟨A, cs, sc, hy, hrc, hr, h1, hcell⟩ := hsrc X φ κ f a w h
    have hcl := hrc.length
    have hv := h.evs hx
    have hS := h.sl b _ hs
    generalize hp : a.eval x = v at hv
    cases hv with
    | @sb _ _ _ _ _ _ g hφ hnc _ =>
      obtain ⟨vs, hh, hvc, hv1⟩ : ∃ vs : List Value, w.heap[g]? = some (.cells vs.toArray T' (0, 0)) ∧ RC w φ κ X.R l vs Ct.z ∧ ∀ v ∈ vs, v.oneCell' = true := by
        generalize f b = F at hS
        cases hS with
        | c hφ' hh hc ho _ => rw [hφ] at hφ'; injection hφ' with e; subst e; exact ⟨_, hh, hc, ho⟩
      have hvl := hvc.length
      obtain ⟨dd, j, hd, hj, _, hjs, _⟩ := TI.parts (ty he)
      have hrun := run_copy_row (P := Try.prog) w T T1 o.type e g off n c A sl sc vs.toArray T' cs (ty_sl hT hk) (by rw [hj]; simp [hjs, hsz]) hh hr hcell (by simp; omega) h1
      obtain ⟨f', h2⟩ := h.rebox hs hφ hh (hvc.cpy hrc off) (cpy_one off hv1 h1)
      have e1 : (vs.toArray.toList.take off ++ cs ++ vs.toArray.toList.drop (off + cs.length)).toArray = (cpy vs off cs).toArray := by simp [cpy]
      rw [e1] at hrun
      refine ⟨_, _, φ, κ, f', ?_, h2.puts o.dst (av := .sc (.int .i64 ((min sl n : Nat) : Int))) (v := goInt cs.length) (by rw [hr]; exact .sc rfl)⟩
      have hm : (#[x, y] : Array Operand).map a.eval = #[.slice (some ⟨g, off, none⟩) n c, .slice (some A) sl sc] := by simp [hp, hy]
      simp only [execOp, ho, resolve, Sem.run_bind, Sem.run_pure, Result.andThen_ok, invoke, hm]
      show Sem.run Try.prog ((do pure (.value (← Builtin.copy_ #[T, T1] o.type #[.slice (some ⟨g, off, none⟩) n c, .slice (some A) sl sc])) : Sem Next)) w = _
      simp only [Sem.run_bind, hrun, Result.andThen_ok, Sem.run_pure]) K
theorem RE.flat1 {R : Nat → Prop} : ∀ {r : List (List AV)} {us : List Value}, RE w φ κ R 1 r us Ct.z → RC w φ κ R r.flatten us Ct.z ∧ (∀ v ∈ us, v.oneCell' = true) ∧ us.length = r.length
  | _, _, .nil => ⟨.nil, (fun _ h => by cases h), rfl⟩
  | _, _, .cons h1 h2 h3 h4 h5 => by
    obtain ⟨rfl, rfl⟩ := Ct.split h5
    obtain ⟨a, b, c⟩ := RE.flat1 h4
    exact ⟨by rw [List.flatten_cons]; exact h1.append a fun _ => rfl, fun v hv => (List.mem_append.1 hv).elim (h3.1 v) (b v), by simp [h2, c]; omega⟩
theorem RE.take_ {R : Nat → Prop} : ∀ {r : List (List AV)} {us : List Value} (m : Nat), RE w φ κ R 1 r us Ct.z → RE w φ κ R 1 (r.take m) (us.take m) Ct.z
  | _, _, 0, _ => by simpa using .nil
  | _, _, m + 1, .nil => .nil
  | _, _, m + 1, .cons (us := us) (vs := vs) h1 h2 h3 h4 h5 => by
    obtain ⟨rfl, rfl⟩ := Ct.split h5
    have e : (us ++ vs).take (m + 1) = us ++ vs.take m := by
      rw [List.take_append, h2, List.take_of_length_le (by omega)]; rfl
    rw [e]
    exact .cons (S := Ct.z) (T := Ct.z) h1 h2 h3 (RE.take_ m h4) fun _ => rfl
/-- from a slice that may be read -/
theorem AP.CV {T T1 T' e : Nat} {x y : Operand} {b u off n c : Nat} {l : List AV} {rows : List (List AV)} {i ie : TI} (K : AP Try.prog X ops Q rest (AS.put ⟨s.t, s.b.set b ⟨u, .c T' (cpy l off (rows.take (min rows.length n)).flatten)⟩⟩ o.dst (.sc (.int .i64 ((min rows.length n : Nat) : Int))))) (hg : o.guard = none := by exact rfl) (ho : o.op = .call { callee := .builtin .copy, args := #[x, y], argTypes := #[T, T1] } := by exact rfl)
    (hx : aev s x = .sb b u 1 off n c := by exact rfl) (hy : aev s y = .sl none 1 rows := by exact rfl) (hs : s.b[b]? = some ⟨u, .c T' l⟩ := by exact rfl) (hT : tt[T]? = some i := by exact rfl) (hk : i.kd = .sl e := by exact rfl) (he : tt[e]? = some ie := by exact rfl) (hsz : Nat.beq ie.size 1 = true := by exact rfl)
    (hp : off + n ≤ l.length ∧ 0 < rows.length := by ((repeat' (with_reducible apply And.intro)) <;> (first | exact True.intro | exact rfl | omega | decide | (simp; omega) | (simp; done) | assumption | exact .inl rfl | (refine .inr ?_; simp; try omega)))) : AP Try.prog X ops Q (o :: rest) s :=
  ap_copyv hg ho hx hs hT hk he (Nat.eq_of_beq_eq_true hsz) hp.1 (fun X φ κ f a w h => by
    have h1 := h.evs hy
    have hp := hp
    generalize hp' : a.eval y = p at h1
    cases h1 with
    | ni => simp at hp
    | ne => simp at hp
    | @ro _ _ g o' c' us hre hle hm hR hc =>
      obtain ⟨a1, a2, a3⟩ := RE.flat1 (RE.take_ (min rows.length n) hre)
      refine ⟨_, _, c', rfl, a1, by rw [a3]; simp, a2, fun j v hj => ?_⟩
      rw [List.getElem?_take] at hj
      split at hj
      · have := hc j v hj
        rwa [show (⟨g, o', none⟩ : Addr).add j = ⟨g, o' + j, none⟩ by unfold Addr.add; split <;> simp_all]
      · cases hj) K
/-- from cells of the same variable -/
theorem AP.CO {T T1 T' e : Nat} {x y : Operand} {b u off n c off' n' c' : Nat} {l : List AV} {i ie : TI} (K : AP Try.prog X ops Q rest (AS.put ⟨s.t, s.b.set b ⟨u, .c T' (cpy l off ((l.drop off').take (min n' n)))⟩⟩ o.dst (.sc (.int .i64 ((min n' n : Nat) : Int))))) (hg : o.guard = none := by exact rfl) (ho : o.op = .call { callee := .builtin .copy, args := #[x, y], argTypes := #[T, T1] } := by exact rfl)
    (hx : aev s x = .sb b u 1 off n c := by exact rfl) (hy : aev s y = .sb b u 1 off' n' c' := by exact rfl) (hs : s.b[b]? = some ⟨u, .c T' l⟩ := by exact rfl) (hT : tt[T]? = some i := by exact rfl) (hk : i.kd = .sl e := by exact rfl) (he : tt[e]? = some ie := by exact rfl) (hsz : Nat.beq ie.size 1 = true := by exact rfl)
    (hp : off + n ≤ l.length ∧ off' + n' ≤ l.length := by ((repeat' (with_reducible apply And.intro)) <;> (first | exact True.intro | exact rfl | omega | decide | (simp; omega) | (simp; done) | assumption | exact .inl rfl | (refine .inr ?_; simp; try omega)))) : AP Try.prog X ops Q (o :: rest) s :=
  ap_copyv (sl := n') hg ho hx hs hT hk he (Nat.eq_of_beq_eq_true hsz) hp.1 (fun X φ κ f a w h => by
    have hv := h.evs hy
    have hS := h.sl b _ hs
    generalize hp' : a.eval y = p at hv
    cases hv with
    | @sb _ _ _ _ _ _ g hφ hnc _ =>
      obtain ⟨vs, hh, hvc, hv1⟩ : ∃ vs : List Value, w.heap[g]? = some (.cells vs.toArray T' (0, 0)) ∧ RC w φ κ X.R l vs Ct.z ∧ ∀ v ∈ vs, v.oneCell' = true := by
        generalize f b = F at hS
        cases hS with
        | c hφ' hh hc ho _ => rw [hφ] at hφ'; injection hφ' with e; subst e; exact ⟨_, hh, hc, ho⟩
      have hvl := hvc.length
      refine ⟨_, (vs.drop off').take (min n' n), c', rfl, hvc.drop_ off' _, by simp; omega, fun v hv => hv1 v (List.mem_of_mem_drop (List.mem_of_mem_take hv)), fun j v hj => ?_⟩
      rw [List.getElem?_take] at hj
      split at hj
      · rw [List.getElem?_drop] at hj
        rw [show (⟨g, off', none⟩ : Addr).add j = ⟨g, off' + j, none⟩ by unfold Addr.add; split <;> simp_all]
        rw [cell_of_row w g (off' + j) vs.toArray T' (0, 0) hh]; simpa using hj
      · cases hj) K
/-- a part of an array's value -/
theorem run_indexv {T N e : Nat} {i : TI} {k : IntKind} {j : Int} {vs : List Value} {v : Value} (hT : tt[T]? = some i) (hk : i.kd = .ar N e) {ie : TI} (he : tt[e]? = some ie) (hsz : ie.size = 1) (hrow : rowK ie.kd = false) (h0 : 0 ≤ j) (hj : j < N) (hv : vs[j.toNat]? = some v) (w : World) : (Instr.index T (.agg vs.toArray) (.int k j)).run Try.prog w = .ok v w := by
  obtain ⟨d, hd, hr, _⟩ := ty_flat he hrow
  have hagg : (isAgg e).run Try.prog w = .ok false w := by
    unfold isAgg
    rw [Sem.run_bind, run_underlying hd w]
    cases d <;> first | rfl | (simp [TypeDesc.isRow] at hr; done)
  have hsize := ty_size he w
  simp [Instr.index, asIntOf, Sem.run_bind, run_underlying (ty_ar hT hk), Result.andThen_ok, h0, hj, hsize, hsz, part, hagg, asAgg, hv, go_sem]
theorem AP.IX {T N e : Nat} {x y : Operand} {l : List AV} {k : IntKind} {j : Int} {i ie : TI} (K : AP Try.prog X ops Q rest (s.put d av)) (hx : aev s x = .ag l := by exact rfl) (hy : aev s y = .sc (.int k j) := by exact rfl) (hT : tt[T]? = some i := by exact rfl) (hk : i.kd = .ar N e := by exact rfl) (he : tt[e]? = some ie := by exact rfl) (hsz : Nat.beq ie.size 1 = true := by exact rfl) (hrow : rowK ie.kd = false := by exact rfl)
    (hl : l[j.toNat]? = some av := by first | assumption | exact mapAt (by (first | omega | (simp; omega) | (simp; done) | assumption)) | exact rfl) (hp : 0 ≤ j ∧ j < N := by ((repeat' (with_reducible apply And.intro)) <;> (first | exact True.intro | exact rfl | omega | decide | (simp; omega) | (simp; done) | assumption | exact .inl rfl | (refine .inr ?_; simp; try omega)))) : AP Try.prog X ops Q (⟨d, .index T x y, ty, pos, aft, none⟩ :: rest) s :=
  AP.pure rfl (.of_run fun X φ κ f a w h => by
    have h1 := h.evs hx
    have h2 := h.evc hy
    generalize hp' : a.eval x = p at h1
    cases h1 with
    | ag hc _ =>
      obtain ⟨v, hv, hr⟩ := hc.at_ hl
      refine ⟨v, hr, fun w' _ => ?_⟩
      have := run_indexv hT hk he (Nat.eq_of_beq_eq_true hsz) hrow hp.1 hp.2 hv (k := k) w'
      simp only [execOp, hp', h2, Sem.run_bind, this]
      simp [go_sem]) K
end
/-! in drawn regions -/
section
variable {s : AS} {ops : Array Oper} {all : List Oper} {K : AS → Prop} {acc : List Fp} {l : List Oper} {av : AV} {op : Op} {ty : Nat} {pos : String} {aft : Array Edge} {g : Option (Nat × Bool)} {d : Nat} {T : List Nat} {F : List Nat} {b2 : List Sl} {r : Bool}
theorem DW.RX (hk : DW Try.prog ops all K (⟨T, some d, F, false⟩ :: acc) l ⟨s.t.set d av, s.b⟩) (hg : gdS ops s g = some r := by exact rfl) (hT : opTs ops ⟨some d, op, ty, pos, aft, g⟩ = T := by (simp only [ft, nm, Nat.reduceAdd, Nat.reduceBEq, List.getElem?_cons_zero, List.getElem?_cons_succ]; exact rfl)) (hF : ftF 0 s op = F := by (simp only [ft, nm, Nat.reduceAdd, Nat.reduceBEq, List.getElem?_cons_zero, List.getElem?_cons_succ]; exact rfl)) (h : ∀ X V, AP Try.prog X ops (fun e s' => e = .normal ∧ s' = ⟨(msT T 0 s.t).set d av, msB F V 0 s.b⟩) [⟨some d, op, ty, pos, aft, g⟩] ⟨msT T 0 s.t, msB F V 0 s.b⟩ := by (intro X V; simp only [ft, nm, Nat.reduceAdd, Nat.reduceBEq]; (try (refine AP.Y ?_; dsimp only)); (first | refine AP.LB ?_ | refine AP.IX ?_ | refine AP.SV ?_ | refine AP.FV ?_); (try simp only [nx, Nat.reduceAdd, Nat.reduceSub, BEq.rfl]); refine AP.nil ?_; first | exact ⟨trivial, rfl⟩ | exact ⟨rfl, rfl⟩)) (hy : nyF F 0 s.b = true := by exact rfl) :
    DW Try.prog ops all K acc (⟨some d, op, ty, pos, aft, g⟩ :: l) s := DW.rd 0 hT hF h hk hy
theorem DW.WX (hk : DW Try.prog ops all K (⟨T, some d, F, true⟩ :: acc) l ⟨s.t.set d av, b2⟩) (hg : gdS ops s g = some r := by exact rfl) (hT : opTs ops ⟨some d, op, ty, pos, aft, g⟩ = T := by (simp only [ft, nm, Nat.reduceAdd, Nat.reduceBEq, List.getElem?_cons_zero, List.getElem?_cons_succ]; exact rfl)) (hF : ftF 1 s op = F := by (simp only [ft, nm, Nat.reduceAdd, Nat.reduceBEq, List.getElem?_cons_zero, List.getElem?_cons_succ]; exact rfl)) (h : ∀ X V, AP Try.prog X ops (fun e s' => e = .normal ∧ s'.t = (msT T 0 s.t).set d av ∧ Mg F V 0 s.b s'.b b2) [⟨some d, op, ty, pos, aft, g⟩] ⟨msT T 0 s.t, msB F V 0 s.b⟩ := by (intro X V; simp only [ft, nm, Nat.reduceAdd, Nat.reduceBEq]; (try (refine AP.Y ?_; dsimp only)); (first | refine AP.SF ?_ | refine AP.CV ?_ | refine AP.CO ?_); (try simp only [nx, Nat.reduceAdd, Nat.reduceSub, BEq.rfl]); refine AP.nil ?_; (first | refine ⟨trivial, rfl, ?_⟩ | refine ⟨rfl, rfl, ?_⟩); (repeat' (first | exact Mg.nil | apply Mg.keep rfl | apply Mg.take rfl)); all_goals fail))
    (hb : (∃ V : Nat → Nat, ∃ b1, Mg F V 0 s.b b1 b2) := by (refine Exists.intro (fun _ => 0) ?_; apply Exists.intro; (repeat' (first | exact Mg.nil | apply Mg.keep rfl | apply Mg.take rfl)); all_goals fail)) (hy : nyF F 0 s.b = true := by exact rfl) (hy2 : nyF F 0 b2 = true := by exact rfl) : DW Try.prog ops all K acc (⟨some d, op, ty, pos, aft, g⟩ :: l) s := DW.st 1 hT hF h hb hk hy hy2
theorem DW.WX' (hk : DW Try.prog ops all K (⟨T, none, F, true⟩ :: acc) l ⟨s.t, b2⟩) (hg : gdS ops s g = some r := by exact rfl) (hT : opTs ops ⟨none, op, ty, pos, aft, g⟩ = T := by (simp only [ft, nm, Nat.reduceAdd, Nat.reduceBEq, List.getElem?_cons_zero, List.getElem?_cons_succ]; exact rfl)) (hF : ftF 1 s op = F := by (simp only [ft, nm, Nat.reduceAdd, Nat.reduceBEq, List.getElem?_cons_zero, List.getElem?_cons_succ]; exact rfl)) (h : ∀ X V, AP Try.prog X ops (fun e s' => e = .normal ∧ s'.t = msT T 0 s.t ∧ Mg F V 0 s.b s'.b b2) [⟨none, op, ty, pos, aft, g⟩] ⟨msT T 0 s.t, msB F V 0 s.b⟩ := by (intro X V; simp only [ft, nm, Nat.reduceAdd, Nat.reduceBEq]; (try (refine AP.Y ?_; dsimp only)); (first | refine AP.TB ?_); (try simp only [nx, Nat.reduceAdd, Nat.reduceSub, BEq.rfl]); refine AP.nil ?_; (first | refine ⟨trivial, rfl, ?_⟩ | refine ⟨rfl, rfl, ?_⟩); (repeat' (first | exact Mg.nil | apply Mg.keep rfl | apply Mg.take rfl)); all_goals fail))
    (hb : (∃ V : Nat → Nat, ∃ b1, Mg F V 0 s.b b1 b2) := by (refine Exists.intro (fun _ => 0) ?_; apply Exists.intro; (repeat' (first | exact Mg.nil | apply Mg.keep rfl | apply Mg.take rfl)); all_goals fail)) (hy : nyF F 0 s.b = true := by exact rfl) (hy2 : nyF F 0 b2 = true := by exact rfl) : DW Try.prog ops all K acc (⟨none, op, ty, pos, aft, g⟩ :: l) s := DW.stN 1 hT hF h hb hk hy hy2
end
end Go.Proofs.Ytkkabbdmfepbiaa

namespace Go.Proofs.Ytkkabbdmfepbiaa
set_option linter.unusedVariables false
set_option linter.unusedSimpArgs false
open Go.RowKit
set_option maxRecDepth 100000
mutual
def fzv (b u k : Nat) (s0 : List (List AV)) : AV → AV
  | .hd b' u' => match b' == b && u' == u with
    | true => .sl none k s0
    | false => .hd b' u'
  | .ag l => .ag (fzc b u k s0 l)
  | .sc v => .sc v
  | .sl o k' s => .sl o k' s
  | .bp b' u' o => .bp b' u' o
  | .ep b' u' k' i o => .ep b' u' k' i o
  | .rp k' s i o => .rp k' s i o
  | .tu l => .tu l
  | .gd p a => .gd p a
  | .fs k' s => .fs k' s
  | .fn f c => .fn f c
  | .hf b' u' => .hf b' u'
  | .sb b' u' k' o n c => .sb b' u' k' o n c
  | .de => .de
  | .ob T l => .ob T l
  | .mo ks s => .mo ks s
def fzc (b u k : Nat) (s0 : List (List AV)) : List AV → List AV
  | [] => []
  | a :: l => fzv b u k s0 a :: fzc b u k s0 l
end
mutual
theorem fzv_rel (b u k : Nat) (s0 : List (List AV)) : ∀ a : AV, FzV b u k s0 a (fzv b u k s0 a)
  | .hd b' u' => by
    unfold fzv
    split
    · rename_i h1
      rw [Bool.and_eq_true] at h1
      obtain rfl := eq_of_beq h1.1
      obtain rfl := eq_of_beq h1.2
      exact .hd
    · exact .same
  | .ag l => .ag (fzc_rel b u k s0 l)
  | .sc _ => .same
  | .sl _ _ _ => .same
  | .bp _ _ _ => .same
  | .ep _ _ _ _ _ => .same
  | .rp _ _ _ _ => .same
  | .tu _ => .same
  | .gd _ _ => .same
  | .fs _ _ => .same
  | .fn _ _ => .same
  | .hf _ _ => .same
  | .sb _ _ _ _ _ _ => .same
  | .de => .same
  | .ob _ _ => .same
  | .mo _ _ => .same
theorem fzc_rel (b u k : Nat) (s0 : List (List AV)) : ∀ l : List AV, FzC b u k s0 l (fzc b u k s0 l)
  | [] => .nil
  | a :: l => .cons (fzv_rel b u k s0 a) (fzc_rel b u k s0 l)
end
def fzb (b u k : Nat) (s0 : List (List AV)) : List Sl → List Sl
  | [] => []
  | ⟨v, .c T c⟩ :: l => ⟨v, .c T (fzc b u k s0 c)⟩ :: fzb b u k s0 l
  | e :: l => e :: fzb b u k s0 l
theorem fzb_rel (b u k : Nat) (s0 : List (List AV)) : ∀ l : List Sl, FzB b u k s0 l (fzb b u k s0 l)
  | [] => .nil
  | ⟨v, .c T c⟩ :: l => .c (fzc_rel b u k s0 c) (fzb_rel b u k s0 l)
  | ⟨v, .r e k' s⟩ :: l => .same (fzb_rel b u k s0 l)
  | ⟨v, .x⟩ :: l => .same (fzb_rel b u k s0 l)
  | ⟨v, .o⟩ :: l => .same (fzb_rel b u k s0 l)
  | ⟨v, .y J⟩ :: l => .same (fzb_rel b u k s0 l)
  | ⟨v, .f _ _ _ _ _⟩ :: l => .same (fzb_rel b u k s0 l)
  | ⟨v, .m _ _ _ _⟩ :: l => .same (fzb_rel b u k s0 l)
/-- array b is given up -/
def fzS (s : AS) (b : Nat) : Option AS :=
  match s.b[b]? with
  | some ⟨u, .r _ k rows⟩ => some ⟨fzc b u k (roE rows) s.t, fzb b u k (roE rows) (s.b.set b ⟨u, .x⟩)⟩
  | _ => none
theorem gh_fzS {s s' : AS} {b : Nat} (h : fzS s b = some s') : Gh s s' := by
  unfold fzS at h
  split at h
  · rename_i hs
    injection h with h; subst h
    exact gh_fz hs rfl (fzc_rel _ _ _ _ _) (fzb_rel _ _ _ _ _)
  · cases h
def fzA : AS → List AV → Option AS
  | _, [] => none
  | s, .hd b _ :: l => match fzS s b with
    | some s' => match fzA s' l with
      | some s'' => some s''
      | none => some s'
    | none => fzA s l
  | s, _ :: l => fzA s l
theorem gh_fzA : ∀ {l : List AV} {s s' : AS}, fzA s l = some s' → Gh s s'
  | [], _, _, h => by cases h
  | a :: l, s, s', h => by
    cases a with
    | hd b u =>
      simp only [fzA] at h
      split at h
      · rename_i s1 h1
        split at h
        · rename_i s2 h2
          injection h with h; subst h
          exact (gh_fzS h1).trans (gh_fzA h2)
        · injection h with h; subst h
          exact gh_fzS h1
      · exact gh_fzA h
    | _ => exact gh_fzA (l := l) h
theorem AP.PF {P : Program} {X : Cx} {s s1 : AS} {ops : Array Oper} {rest : List Oper} {o : Oper} {Q : Exit → AS → Prop} {fo : Operand} {xs : Array Operand} {tys : Array TypeId} (K : AP P X ops Q (o :: rest) s1) (ho : o.op = .call { callee := .value fo, args := xs, argTypes := tys } := by exact rfl) (h : fzA s (xs.toList.map (aev s)) = some s1 := by exact rfl) : AP P X ops Q (o :: rest) s := AP.gh (gh_fzA h) K
theorem fq : type_of% (And.intro @fzc.eq_1 (And.intro @fzc.eq_2 (And.intro @fzv.eq_1 (And.intro @fzv.eq_2 (And.intro @fzv.eq_3 (And.intro @fzv.eq_4 (And.intro @fzv.eq_5 (And.intro @fzv.eq_6 (And.intro @fzv.eq_7 (And.intro @fzv.eq_8 (And.intro @fzv.eq_9 (And.intro @fzv.eq_10 (And.intro @fzv.eq_11 (And.intro @fzv.eq_12 (And.intro @fzv.eq_13 (And.intro @fzv.eq_14 (And.intro @fzb.eq_1 (And.intro @fzb.eq_2 @fzb.eq_3)))))))))))))))))) := (And.intro @fzc.eq_1 (And.intro @fzc.eq_2 (And.intro @fzv.eq_1 (And.intro @fzv.eq_2 (And.intro @fzv.eq_3 (And.intro @fzv.eq_4 (And.intro @fzv.eq_5 (And.intro @fzv.eq_6 (And.intro @fzv.eq_7 (And.intro @fzv.eq_8 (And.intro @fzv.eq_9 (And.intro @fzv.eq_10 (And.intro @fzv.eq_11 (And.intro @fzv.eq_12 (And.intro @fzv.eq_13 (And.intro @fzv.eq_14 (And.intro @fzb.eq_1 (And.intro @fzb.eq_2 @fzb.eq_3))))))))))))))))))
end Go.Proofs.Ytkkabbdmfepbiaa

namespace Go.Proofs.Ytkkabbdmfepbiaa
set_option linter.unusedVariables false
set_option linter.unusedSimpArgs false
open Go.RowKit
set_option maxRecDepth 100000
section
variable {X : Cx} {φ φ' : Fi} {κ κ' : Ka} {f : Nat → Ct} {L L' : Ct} {s s' : AS} {a : Act} {w w' : World} {R : Nat → Prop}
/-- a row is laid open -/
theorem SatW.openR (h : SatW X φ κ f L s a w) {j u k n : Nat} {e : TypeId} {rows : List (List AV)} {c c' : List AV} {b2 : List Sl} (hj : s.b[j]? = some ⟨u, .r e k rows⟩) (hc : rows[n]? = some c) (hop : opnC c (s.b.set j ⟨u, .o⟩) = (c', b2)) (hk : b2[j]? = some ⟨u, .o⟩) :
    ∃ φ' κ' f', (∀ b u g, φ b u = some g → φ' b u = some g) ∧ (∀ b u v, κ b u = some v → κ' b u = some v) ∧ SatW X φ' κ' f' L ⟨s.t, b2.set j ⟨u, .f e k rows n c'⟩⟩ a w := by
  obtain ⟨hrs, ht⟩ := h.take hj .o fun _ _ => .o
  generalize hF : f j = F at hrs ht
  cases hrs with
  | r hκ hv =>
    cases hv with
    | ni => simp at hc
    | ne => simp at hc
    | @om _ _ _ g cap cur us S _ he hmk hle hm hsz htk hS =>
      obtain ⟨us1, cs, us2, S1, Sc, S2, e1, e2, e3, e4, e5, e6, e7, e8⟩ := RE.part he hc
      obtain ⟨φ1, κ1, f1, p1, p2, p3, p4⟩ := SatW.opnC_ (L' := fun x => ((if x = g then 1 else 0) + (S1 x + S2 x)) + L x) ht e2 (fun x => by (try dsimp only); rw [hS, e8]; omega) fun x hx => leaf_fl (e5 x hx)
      simp only [hop] at p3 p4
      have hz : ∀ x, f1 j x = 0 := fun x => by
        have := p4.sl j _ hk
        generalize f1 j = F at this
        cases this; rfl
      refine ⟨φ1, κ1, _, p1, p2, p4.turn (w' := w) (B := .f e k rows n c') (u := u) (g := fun x => (if x = g then 1 else 0) + (S1 x + S2 x)) (L' := L) hk (fun _ _ _ h => h) (fun _ _ _ h => h) (Nat.le_refl _) rfl rfl rfl (fun _ _ _ => rfl) ?_ (fun x _ => by (try dsimp only); rw [hz x]; omega) (fun x hx => ?_) (Nat.le_refl _) (fun _ _ _ h => h) (fun _ _ _ h => h)⟩
      · exact .f (p2 _ _ _ hκ) (.yes (List.getElem?_eq_some_iff.1 hc).1 (RE.hist p1 p2 (fun _ h => h) e1) p3 e3 e4 (RE.hist p1 p2 (fun _ h => h) e6) e7 fun _ => rfl) hmk hle hm hsz htk fun _ => rfl
      · have h7 := p4.one x
        have h8 := p4.own x
        dsimp only at h7 h8
        exact ⟨by omega, fun h0 => (h8 (by omega)).1⟩
/-- and shut -/
theorem SatW.shutR (h : SatW X φ κ f L s a w) {j u k n : Nat} {e : TypeId} {rows : List (List AV)} {c c' : List AV} {b1 : List Sl} (hj : s.b[j]? = some ⟨u, .f e k rows n c⟩) (hcl : ClsC (s.b.set j ⟨u, .o⟩) c c' b1) (hk : b1[j]? = some ⟨u, .o⟩) :
    ∃ X' f', X.le X' ∧ SatW X' φ κ f' L ⟨s.t, b1.set j ⟨u, .r e k (rows.set n c')⟩⟩ a w := by
  obtain ⟨hrs, ht⟩ := h.take hj .o fun _ _ => .o
  generalize hF : f j = F at hrs ht
  cases hrs with
  | @f _ _ _ _ _ g cap cur us S' _ hκ hro hmk hle hm hsz htk hS =>
    cases hro with
    | yes hn e1 e2 e3 e4 e6 e7 e8 =>
      obtain ⟨X1, Sc, f1, hX1, p1, p2, p3⟩ := SatW.cls hcl ht e2
      have hz : ∀ x, f1 j x = 0 := fun x => by
        have := p3.sl j _ hk
        generalize f1 j = F at this
        cases this; rfl
      rename_i us1 cs us2 S1 S2
      have hhist : ∀ {s us S}, RE w φ κ X.R k s us S → RE w φ κ X1.R k s us S := fun h => RE.hist (fun _ _ _ h => h) (fun _ _ _ h => h) hX1.up h
      have hj2 := RE.join hn (hhist e1) p1 e3 e4 p2 (hhist e6) (S := fun x => S1 x + Sc x + S2 x) fun _ => rfl
      refine ⟨X1, _, hX1, p3.turn (w' := w) (B := .r e k (rows.set n c')) (u := u) (g := fun x => (if x = g then 1 else 0) + (S1 x + Sc x + S2 x)) (L' := L) hk (fun _ _ _ h => h) (fun _ _ _ h => h) (Nat.le_refl _) rfl rfl rfl (fun _ _ _ => rfl) ?_ (fun x _ => by (try dsimp only); rw [hz x, hS, e8]; omega) (fun x hx => ?_) (Nat.le_refl _) (fun _ _ _ h => h) (fun _ _ _ h => h)⟩
      · have := RV.om (e := e) (T := fun x => (if x = g then 1 else 0) + (S1 x + Sc x + S2 x)) hj2 hmk (by simpa using hle) hm hsz (by simp; rw [htk, e7]; simp) fun _ => rfl
        rw [List.length_set] at this
        exact .r hκ this
      · have h7 := p3.one x
        have h8 := p3.own x
        dsimp only at h7 h8
        rw [hS, e8] at h7 h8
        exact ⟨by omega, fun h0 => (h8 (by omega)).1⟩
end
/-- shut, by a function: what is owned goes back as owned -/
def clsO : Nat → List Sl → List AV → Option (List AV × List Sl)
  | 0, _, _ => none
  | _ + 1, b, [] => some ([], b)
  | n + 1, b, a :: l =>
    match a with
    | .hd i u => match b[i]? with
      | some ⟨v, .r e k r⟩ => match Nat.beq v u, clsO n (b.set i ⟨v, .x⟩) l with
        | true, some (l', b') => some (.sl (some e) k r :: l', b')
        | _, _ => none
      | some ⟨v, .m ks r none _⟩ => match Nat.beq v u, clsO n (b.set i ⟨v, .x⟩) l with
        | true, some (l', b') => some (.mo ks r :: l', b')
        | _, _ => none
      | some ⟨v, .m ks r (some (m, c)) _⟩ => match Nat.beq v u, clsO n (b.set i ⟨v, .x⟩) c with
        | true, some (c', b1) => match clsO n b1 l with
          | some (l', b') => some (.mo ks (r.set m c') :: l', b')
          | none => none
        | _, _ => none
      | some ⟨v, .f e k r m c⟩ => match Nat.beq v u, clsO n (b.set i ⟨v, .x⟩) c with
        | true, some (c', b1) => match clsO n b1 l with
          | some (l', b') => some (.sl (some e) k (r.set m c') :: l', b')
          | none => none
        | _, _ => none
      | _ => none
    | .bp i u 0 => match b[i]? with
      | some ⟨v, .c T c⟩ => match Nat.beq v u, clsO n (b.set i ⟨v, .x⟩) c with
        | true, some (c', b1) => match clsO n b1 l with
          | some (l', b') => some (.ob T c' :: l', b')
          | none => none
        | _, _ => none
      | _ => none
    | .fn f c => match c, clsO n b l with
      | [], some (l', b') => some (.sc (.func (.func f) #[] #[]) :: l', b')
      | _, _ => none
    | .sc v => match clsO n b l with
      | some (l', b') => some (.sc v :: l', b')
      | none => none
    | .sl o k r => match clsO n b l with
      | some (l', b') => some (.sl o k r :: l', b')
      | none => none
    | .ob T c => match clsO n b l with
      | some (l', b') => some (.ob T c :: l', b')
      | none => none
    | .mo ks r => match clsO n b l with
      | some (l', b') => some (.mo ks r :: l', b')
      | none => none
    | _ => none
theorem clsO_of : ∀ {n : Nat} {b : List Sl} {l l' : List AV} {b' : List Sl}, clsO n b l = some (l', b') → ClsC b l l' b'
  | 0, b, l, l', b', h => by simp [clsO] at h
  | n + 1, b, [], l', b', h => by simp only [clsO, Option.some.injEq, Prod.mk.injEq] at h; obtain ⟨rfl, rfl⟩ := h; exact .nil
  | n + 1, b, a :: l, l', b', h => by
    unfold clsO at h
    split at h
    · split at h <;> try cases h
      · rename_i hb
        split at h <;> try cases h
        rename_i hv hc
        have := Nat.eq_of_beq_eq_true hv; subst this
        exact .hd hb (clsO_of hc)
      · rename_i hb
        split at h <;> try cases h
        rename_i hv hc
        have := Nat.eq_of_beq_eq_true hv; subst this
        exact .mo hb (clsO_of hc)
      · rename_i hb
        split at h <;> try cases h
        rename_i hv hc
        have := Nat.eq_of_beq_eq_true hv; subst this
        split at h <;> try cases h
        rename_i hd
        exact .mp hb (clsO_of hc) (clsO_of hd)
      · rename_i hb
        split at h <;> try cases h
        rename_i hv hc
        have := Nat.eq_of_beq_eq_true hv; subst this
        split at h <;> try cases h
        rename_i hd
        exact .hp hb (clsO_of hc) (clsO_of hd)
    · split at h <;> try cases h
      rename_i hb
      split at h <;> try cases h
      rename_i hv hc
      have := Nat.eq_of_beq_eq_true hv; subst this
      split at h <;> try cases h
      rename_i hd
      exact .ob hb (clsO_of hc) (clsO_of hd)
    · split at h <;> try cases h
      rename_i hc
      exact .fn (clsO_of hc)
    · split at h <;> try cases h
      rename_i hc
      exact .leaf rfl (clsO_of hc)
    · split at h <;> try cases h
      rename_i hc
      exact .leaf rfl (clsO_of hc)
    · split at h <;> try cases h
      rename_i hc
      exact .leaf rfl (clsO_of hc)
    · split at h <;> try cases h
      rename_i hc
      exact .leaf rfl (clsO_of hc)
    · cases h
section
variable {s s' : AS}
theorem gh_open {j u k n : Nat} {e : TypeId} {rows : List (List AV)} {c c' : List AV} {b2 : List Sl} (hj : s.b[j]? = some ⟨u, .r e k rows⟩) (hc : rows[n]? = some c) (hop : opnC c (s.b.set j ⟨u, .o⟩) = (c', b2)) (hk : b2[j]? = some ⟨u, .o⟩) : Gh s ⟨s.t, b2.set j ⟨u, .f e k rows n c'⟩⟩ := by
  rintro X a w ⟨X', φ, κ, f, hX, h⟩
  obtain ⟨φ', κ', f', _, _, h1⟩ := h.openR hj hc hop hk
  exact ⟨X', φ', κ', f', hX, h1⟩
end
end Go.Proofs.Ytkkabbdmfepbiaa

namespace Go.Proofs.Ytkkabbdmfepbiaa
set_option linter.unusedVariables false
set_option linter.unusedSimpArgs false
open Go.RowKit
set_option maxRecDepth 100000
theorem ty_mp {T K E : Nat} {i : TI} (hT : tt[T]? = some i) (hk : i.kd = .mp K E) : Try.prog.underlying T = some (.map K E) := by
  obtain ⟨d, j, hd, _, h1, _⟩ := TI.parts (ty hT)
  rw [hk] at h1
  cases d with
  | map k v =>
    simp only [Kd.is, Bool.and_eq_true, beq_iff_eq] at h1
    obtain ⟨rfl, rfl⟩ := h1
    exact hd
  | _ => simp [Kd.is] at h1
/-- a key's value -/
def kvl : AV → Option Value
  | .sc v => some v
  | .ag l => match scs l with
    | some vs => some (.agg vs.toArray)
    | none => none
  | _ => none
/-- the cell of a row, also of the one that lies open -/
def rowAt (rows : List (List AV)) : Option (Nat × List AV) → Nat → Option AV
  | some (m, c), n => match Nat.beq m n with
    | true => c[0]?
    | false => match rows[n]? with
      | some r => match r[0]? with
        | some a => some a.cp
        | none => none
      | none => none
  | none, n => match rows[n]? with
    | some r => match r[0]? with
      | some a => some a.cp
      | none => none
    | none => none
/-- what a look-up tells -/
def lkV (ok : Bool) (av : AV) (is : Bool) : AV := match ok with
  | true => .tu [av, .sc (.bool is)]
  | false => av
/-- what may lie in a row as it is -/
def AV.pl : AV → Bool
  | .sc _ | .sl none _ _ => true
  | _ => false
def AV.nag : AV → Bool
  | .ag _ => false
  | _ => true
def oRow (n : Nat) (av : AV) : Option (Nat × List AV) := match av.pl with
  | true => none
  | false => some (n, [av])
def cRow (av : AV) : List AV := match av.pl with
  | true => [av]
  | false => [.de]
section
variable {X : Cx} {φ φ' : Fi} {κ κ' : Ka} {f : Nat → Ct} {L L' : Ct} {s s' : AS} {a : Act} {w w' : World} {R : Nat → Prop} {o : Oper} {av : AV}
theorem RV.kvl {a : AV} {v kv : Value} {S : Ct} (h : RV w φ κ R a v S) (hk : kvl a = some kv) : v = kv := by
  cases a <;> simp only [Go.Proofs.Ytkkabbdmfepbiaa.kvl] at hk <;> try cases hk
  · cases h; rfl
  · split at hk <;> cases hk
    rename_i hs
    cases h with
    | ag hc _ => rw [hc.scs hs]
theorem RE.k1 {rows : List (List AV)} {us : List Value} {S : Ct} (h : RE w φ κ R 1 rows us S) {n : Nat} {r : List AV} {x : AV} (hr : rows[n]? = some r) (hx : r[0]? = some x) : ∃ v, us[n]? = some v ∧ RV w φ κ R x.cp v Ct.z := by
  obtain ⟨cs, T, hc, hl, ho, hat⟩ := RE.at' h hr
  obtain ⟨v, hv, hrv⟩ := hc.at' ho.2 hx
  exact ⟨v, by simpa using hat 0 v hv, hrv⟩
theorem RO.at_ {rows : List (List AV)} {op : Option (Nat × List AV)} {us : List Value} {S : Ct} (h : RO w φ κ R 1 rows op us S) {n : Nat} (hn : rowAt rows op n = some av) : ∃ v, us[n]? = some v ∧ RV w φ κ R av v Ct.z := by
  cases h with
  | no he =>
    simp only [rowAt] at hn
    split at hn <;> try cases hn
    rename_i hr
    split at hn <;> cases hn
    rename_i hx
    exact he.k1 hr hx
  | @yes m c us1 cs us2 _ S1 S2 _ hm e1 e2 e3 e4 e6 e7 e8 =>
    have l1 := e1.length
    rw [List.length_take, Nat.mul_one, Nat.min_eq_left (Nat.le_of_lt hm)] at l1
    simp only [rowAt] at hn
    split at hn
    · rename_i hb
      have := Nat.eq_of_beq_eq_true hb; subst this
      obtain ⟨v, hv, hr⟩ := e2.at_ hn
      refine ⟨v, ?_, hr⟩
      rw [e7, List.append_assoc, List.getElem?_append_right (by omega), l1, Nat.sub_self]
      rw [List.getElem?_append_left (by omega)]; exact hv
    · rename_i hb
      have hne : m ≠ n := by intro h; subst h; simp at hb
      split at hn <;> try cases hn
      rename_i r hr
      split at hn <;> cases hn
      rename_i hx
      rcases Nat.lt_or_gt_of_ne hne with hlt | hlt
      · have : (rows.drop (m + 1))[n - (m + 1)]? = some r := by rw [List.getElem?_drop, show m + 1 + (n - (m + 1)) = n by omega]; exact hr
        obtain ⟨v, hv, hrv⟩ := e6.k1 this hx
        refine ⟨v, ?_, hrv⟩
        rw [e7, List.getElem?_append_right (by simp; omega)]
        rw [show n - (us1 ++ cs).length = n - (m + 1) by simp; omega]; exact hv
      · have : (rows.take m)[n]? = some r := by rw [List.getElem?_take, if_pos hlt]; exact hr
        obtain ⟨v, hv, hrv⟩ := e1.k1 this hx
        refine ⟨v, ?_, hrv⟩
        rw [e7, List.append_assoc, List.getElem?_append_left (by omega)]; exact hv
theorem RO.len {rows : List (List AV)} {op : Option (Nat × List AV)} {us : List Value} {S : Ct} {k : Nat} (h : RO w φ κ R k rows op us S) : us.length = rows.length * k := by
  cases h with
  | no he => exact he.length
  | @yes m c us1 cs us2 _ S1 S2 _ hm e1 e2 e3 e4 e6 e7 e8 =>
    have l1 := e1.length
    have l2 := e6.length
    rw [e7]
    simp only [List.length_append, l1, l2, e3, List.length_take, List.length_drop]
    rw [Nat.min_eq_left (Nat.le_of_lt hm)]
    have : rows.length = m + (1 + (rows.length - (m + 1))) := by omega
    conv => rhs; rw [this]
    rw [Nat.add_mul, Nat.add_mul]; omega
/-- what a map's number stands for -/
theorem SatW.map_ (h : SatW X φ κ f L s a w) {x : Operand} {j u : Nat} {ks : List Value} {rows : List (List AV)} {op : Option (Nat × List AV)} {st : Option (Nat × Nat × Nat)} (hx : aev s x = .hd j u) (hs : s.b[j]? = some ⟨u, .m ks rows op st⟩) :
    ∃ g es clock us S, a.eval x = .map (some g) ∧ w.heap[g]? = some (.map es clock) ∧ MapIn es clock ks us ∧ RO w φ κ X.R 1 rows op us S ∧ StIn κ es st ∧ κ j u = some (.map (some g)) ∧ ∀ y, f j y = (if y = g then 1 else 0) + S y := by
  have h1 := h.evs hx
  have h2 := h.sl j _ hs
  generalize a.eval x = p at h1
  generalize f j = F at h2
  cases h1 with
  | hd hκ _ =>
    cases h2 with
    | @m _ _ _ _ g es clock us S _ hκ' hro hh hm hst hS =>
      rw [hκ] at hκ'; injection hκ' with e; subst e
      exact ⟨g, es, clock, us, S, rfl, hh, hm, hro, hst, hκ, hS⟩
theorem MapIn.keys {es : Array MapEntry} {clock : Nat} {ks us : List Value} (h : MapIn es clock ks us) {P : Program} {K : TypeId} {sh : List Sh} (hk : ∀ k ∈ ks, isKey P K sh k = true) : ∀ e ∈ es.toList, isKey P K sh e.key = true := fun e he => hk _ (by rw [← h.ky]; exact List.mem_map.2 ⟨e, he, rfl⟩)
theorem MapIn.at_ {es : Array MapEntry} {clock : Nat} {ks us : List Value} (h : MapIn es clock ks us) {n : Nat} {k v : Value} (hk : ks[n]? = some k) (hv : us[n]? = some v) : ∃ e, es[n]? = some e ∧ e.key = k ∧ e.val = v := by
  rw [← h.ky, List.getElem?_map, Option.map_eq_some_iff] at hk
  obtain ⟨e, he, rfl⟩ := hk
  rw [← h.vl, List.getElem?_map, he] at hv
  simp at hv
  exact ⟨e, by simpa using he, rfl, hv⟩
theorem run_zero1 {E : Nat} {ie : TI} {c : ZC} (hE : tt[E]? = some ie) (hz : ie.zero = some [c]) (hr : rowK ie.kd = false) (w : World) : (zeroValue E).run Try.prog w = .ok c.val w := by
  obtain ⟨d, j, hd, hj, h1, _, _, hzz⟩ := TI.parts (ty hE)
  obtain ⟨v, hv, hvc, _, hag, htu⟩ := hzz _ hz
  have : v = c.val := by
    have hna : ¬ ∃ c, v = .agg c := by
      rw [hag]
      cases hk : ie.kd <;> rw [hk] at h1 hr <;> simp [rowK] at hr <;> cases d <;> simp [Kd.is] at h1 ⊢
    have : v.cells.toList = [v] := by
      cases v <;> first | rfl | (exact absurd ⟨_, rfl⟩ hna) | (exact absurd rfl (htu _))
    rw [this] at hvc
    simpa using hvc
  subst this
  simp [zeroValue, typeInfo, hj, hv, go_sem]
/-- looked up, found -/
theorem pq_look {T K E n : Nat} {x y : Operand} {ok : Bool} {j u : Nat} {ks : List Value} {rows : List (List AV)} {op : Option (Nat × List AV)} {st : Option (Nat × Nat × Nat)} {kv : Value} {i : TI} {sh : List Sh}
    (ho : o.op = .lookup T x y ok) (hx : aev s x = .hd j u) (hs : s.b[j]? = some ⟨u, .m ks rows op st⟩) (hy : kvl (aev s y) = some kv) (hT : tt[T]? = some i) (hk : i.kd = .mp K E) (hf : flatT Try.prog 9 K = some sh) (hkv : isKey Try.prog K sh kv = true) (hks : ∀ k ∈ ks, isKey Try.prog K sh k = true)
    (hn : fnd kv ks = some n) (hr : rowAt rows op n = some av) : Pq Try.prog X s o (lkV ok av true) := .of_run fun X φ κ f a w h => by
  obtain ⟨g, es, clock, us, S, he, hh, hm, hro, _, _, hS⟩ := h.map_ hx hs
  have hyv := (h.ev y).kvl hy
  obtain ⟨v, hv, hrv⟩ := hro.at_ hr
  obtain ⟨k', hk', hkq⟩ := fnd_at hn
  obtain ⟨e, hen, hek, hev⟩ := hm.at_ hk' hv
  have hfE : fndE kv es.toList = some (n, v) := by
    simp only [fndE, hm.ky, hn]; simp [hen, hev]
  have hjl : j < s.b.length := (List.getElem?_eq_some_iff.1 hs).1
  have hrun : ∀ w', Below w.heap.size w w' → (execOp a.eval o).run Try.prog w' = .ok (.value (if ok then .tuple #[v, .bool true] else v)) w' := fun w' hb => by
    have hgl : g < w.heap.size := (Array.getElem?_eq_some_iff.1 hh).1
    have hh' : w'.heap[g]? = some (.map es clock) := (hb.block g hgl).trans hh
    have e1 := run_findKey_flat (w := w') (es := es.toList) hf hkv (hm.keys hks)
    have e2 : (Instr.lookup T (.map (some g)) kv ok).run Try.prog w' = .ok (if ok then .tuple #[v, .bool true] else v) w' := by
      simp [Instr.lookup, run_underlying (ty_mp hT hk), MapKept.run_getObj_map hh', run_check es.isEmpty hf hkv, e1, hfE, Result.andThen]
    simp only [execOp, ho, he, hyv, Sem.run_bind, e2]; rfl
  cases ok with
  | true => exact ⟨_, .tu (.cons (S := Ct.z) (T := Ct.z) hrv (.cons (S := Ct.z) (T := Ct.z) (.sc rfl) .nil fun _ => rfl) fun _ => rfl), fun w' hb => by simpa using hrun w' hb⟩
  | false => exact ⟨_, hrv, fun w' hb => by simpa using hrun w' hb⟩
/-- looked up, not there -/
theorem pq_lookN {T K E : Nat} {x y : Operand} {ok : Bool} {j u : Nat} {ks : List Value} {rows : List (List AV)} {op : Option (Nat × List AV)} {st : Option (Nat × Nat × Nat)} {kv : Value} {i ie : TI} {sh : List Sh} {c : ZC}
    (ho : o.op = .lookup T x y ok) (hx : aev s x = .hd j u) (hs : s.b[j]? = some ⟨u, .m ks rows op st⟩) (hy : kvl (aev s y) = some kv) (hT : tt[T]? = some i) (hk : i.kd = .mp K E) (hE : tt[E]? = some ie) (hz : ie.zero = some [c]) (hrk : rowK ie.kd = false) (hf : flatT Try.prog 9 K = some sh) (hkv : isKey Try.prog K sh kv = true) (hks : ∀ k ∈ ks, isKey Try.prog K sh k = true)
    (hn : fnd kv ks = none) : Pq Try.prog X s o (lkV ok (.sc c.val) false) := .of_run fun X φ κ f a w h => by
  obtain ⟨g, es, clock, us, S, he, hh, hm, hro, _, _, hS⟩ := h.map_ hx hs
  have hyv := (h.ev y).kvl hy
  have hfE : fndE kv es.toList = none := by simp only [fndE, hm.ky, hn]
  have hone : c.val.oneCell' = true := by cases c <;> rfl
  have hrun : ∀ w', Below w.heap.size w w' → (execOp a.eval o).run Try.prog w' = .ok (.value (if ok then .tuple #[c.val, .bool false] else c.val)) w' := fun w' hb => by
    have hgl : g < w.heap.size := (Array.getElem?_eq_some_iff.1 hh).1
    have hh' : w'.heap[g]? = some (.map es clock) := (hb.block g hgl).trans hh
    have e1 := run_findKey_flat (w := w') (es := es.toList) hf hkv (hm.keys hks)
    have e2 : (Instr.lookup T (.map (some g)) kv ok).run Try.prog w' = .ok (if ok then .tuple #[c.val, .bool false] else c.val) w' := by
      simp [Instr.lookup, run_underlying (ty_mp hT hk), MapKept.run_getObj_map hh', run_check es.isEmpty hf hkv, e1, hfE, run_zero1 hE hz hrk, Result.andThen]
    simp only [execOp, ho, he, hyv, Sem.run_bind, e2]; rfl
  cases ok with
  | true => exact ⟨_, .tu (.cons (S := Ct.z) (T := Ct.z) (.sc hone) (.cons (S := Ct.z) (T := Ct.z) (.sc rfl) .nil fun _ => rfl) fun _ => rfl), fun w' hb => by simpa using hrun w' hb⟩
  | false => exact ⟨_, .sc hone, fun w' hb => by simpa using hrun w' hb⟩
variable {ops : Array Oper} {rest : List Oper} {Q : Exit → AS → Prop}
/-- a map is made -/
theorem ap_makeMap {T : Nat} (hg : o.guard = none) (ho : o.op = .makeMap T none)
    (K : AP Try.prog X ops Q rest (AS.put ⟨s.t, (newS s.b (.m [] [] none none)).2⟩ o.dst (.hd (newS s.b (.m [] [] none none)).1.1 (newS s.b (.m [] [] none none)).1.2))) : AP Try.prog X ops Q (o :: rest) s :=
  .run hg (fun X φ κ f a w h => by
    have hrun : (execOp a.eval o).run Try.prog w = .ok (.value (.map (some w.heap.size))) (w.alloc (.map #[] 0)) := by
      simp only [execOp, ho]; rfl
    obtain ⟨φ', κ', f', e1, e2, _, e4, e5⟩ := h.newS_ (w' := w.alloc (.map #[] 0)) (B := .m [] [] none none) (g := fun x => (if x = w.heap.size then 1 else 0) + Ct.z x) (L' := Ct.z) none (some (.map (some w.heap.size))) (by simp) rfl rfl rfl
      (fun x hx _ => Below.heap_alloc w _ x hx) (fun φ' κ' j u a b c d => .m d (.no .nil) (heap_alloc_new w _) MapIn.nil trivial fun _ => rfl)
      (fun x hx => by simp [Ct.z]; omega) (fun x hx => by simp only [Ct.z]; split <;> simp_all)
    exact ⟨_, _, φ', κ', f', hrun, e5.puts o.dst (.hd e4 rfl)⟩) K
/-- what a value is, as a row -/
theorem RO.put {rows : List (List AV)} {us : List Value} {S : Ct} {v : Value} {n : Nat} (he : RE w φ κ R 1 (rows.take n) (us.take n) S) {S2 : Ct} (hd : RE w φ κ R 1 (rows.drop (n + 1)) (us.drop (n + 1)) S2) (hn : n < rows.length) (hv : RV w φ κ R av v Ct.z) (ho : v.oneCell' = true) (T : Ct) (hT : ∀ x, T x = S x + S2 x) :
    RO w φ κ R 1 (rows.set n (cRow av)) (oRow n av) (us.take n ++ [v] ++ us.drop (n + 1)) T := by
  have hl : rows.set n (cRow av) = rows.take n ++ cRow av :: rows.drop (n + 1) := by rw [List.set_eq_take_append_cons_drop, if_pos hn]
  cases hp : av.pl with
  | true =>
    have hc : cRow av = [av] := by unfold cRow; rw [hp]
    have hor : oRow n av = none := by unfold oRow; rw [hp]
    have hlf : av.leaf = true := by cases av <;> first | rfl | (cases hp; done)
    rw [hor, hl, hc, List.append_assoc]
    refine .no (he.append (T := fun x => Ct.z x + S2 x) (.cons (S := Ct.z) (T := S2) (us := [v]) (.cons (S := Ct.z) (T := Ct.z) hv .nil fun _ => rfl) rfl ⟨fun u hu => (by simp at hu; subst hu; exact ho), fun x hx => (by simp at hx; subst hx; exact hlf)⟩ hd fun _ => rfl) fun x => ?_)
    rw [hT]; simp [Ct.z]
  | false =>
    have hor : oRow n av = some (n, [av]) := by unfold oRow; rw [hp]
    have ht : ∀ c : List AV, (rows.set n c).take n = rows.take n := fun c => by rw [List.take_set_of_le (Nat.le_refl _)]
    have hdr : ∀ c : List AV, (rows.set n c).drop (n + 1) = rows.drop (n + 1) := fun c => by rw [List.drop_set_of_lt (by omega)]
    rw [hor]
    exact .yes (by simpa using hn) (by rw [ht]; exact he) (.cons (S := Ct.z) (T := Ct.z) hv .nil fun _ => rfl) rfl (fun u hu => (by simp at hu; subst hu; exact ho)) (by rw [hdr]; exact hd) rfl hT
theorem RE.split {k n : Nat} : ∀ {rows : List (List AV)} {us : List Value} {S : Ct}, RE w φ κ R k rows us S → n ≤ rows.length → ∃ S1 S2, RE w φ κ R k (rows.take n) (us.take (n * k)) S1 ∧ RE w φ κ R k (rows.drop n) (us.drop (n * k)) S2 ∧ ∀ x, S x = S1 x + S2 x := by
  induction n with
  | zero => intro rows us S h _; exact ⟨Ct.z, S, by simpa using RE.nil, by simpa using h, fun x => by simp [Ct.z]⟩
  | succ n ih =>
    intro rows us S h hn
    cases h with
    | nil => simp at hn
    | cons h1 h2 h3 h4 h5 =>
      obtain ⟨S1, S2, e1, e2, e3⟩ := ih h4 (by simpa using hn)
      rename_i us' vs Sc T
      have q : (n + 1) * k = us'.length + n * k := by rw [Nat.add_mul, h2]; omega
      refine ⟨_, S2, ?_, ?_, fun x => (by rw [h5, e3, ← Nat.add_assoc])⟩
      · rw [q, List.take_succ_cons, List.take_length_add_append]
        exact .cons h1 h2 h3 e1 fun _ => rfl
      · rw [q, List.drop_succ_cons, List.drop_length_add_append]
        exact e2
theorem RO.drp {rows : List (List AV)} {us : List Value} {S : Ct} {n : Nat} (h : RO w φ κ R 1 rows none us S) (hn : n < rows.length) : ∃ S1 S2, RE w φ κ R 1 (rows.take n) (us.take n) S1 ∧ RE w φ κ R 1 (rows.drop (n + 1)) (us.drop (n + 1)) S2 ∧ ∀ x, S1 x + S2 x ≤ S x := by
  cases h with
  | no he =>
    obtain ⟨S1, S2, e1, e2, e3⟩ := he.split (n := n) (Nat.le_of_lt hn)
    obtain ⟨S3, S4, e4, e5, e6⟩ := e2.split (n := 1) (by simp; omega)
    refine ⟨S1, S4, by simpa using e1, ?_, fun x => (by rw [e3, e6]; omega)⟩
    simp only [List.drop_drop, Nat.mul_one] at e5
    exact e5
/-- one's own map turns -/
theorem SatW.mapTurn (h : SatW X φ κ f Ct.z s a w) {j u g : Nat} {ks : List Value} {rows : List (List AV)} {op : Option (Nat × List AV)} {st : Option (Nat × Nat × Nat)} {es es' : Array MapEntry} {clock clock' : Nat} {ks' us' : List Value} {rows' : List (List AV)} {op' : Option (Nat × List AV)} {st' : Option (Nat × Nat × Nat)} {S S' : Ct}
    (hs : s.b[j]? = some ⟨u, .m ks rows op st⟩) (hκ : κ j u = some (.map (some g))) (hh : w.heap[g]? = some (.map es clock)) (hS : ∀ y, f j y = (if y = g then 1 else 0) + S y)
    (hro : RO w φ κ X.R 1 rows' op' us' S') (hm : MapIn es' clock' ks' us') (hst : StIn κ es' st') (hle : ∀ x, S' x ≤ S x) :
    ∃ f', SatW X φ κ f' Ct.z ⟨s.t, s.b.set j ⟨u, .m ks' rows' op' st'⟩⟩ a (ChangeMaps.setBlock w g (.map es' clock')) := by
  have hjl : j < s.b.length := (List.getElem?_eq_some_iff.1 hs).1
  have hgl : g < w.heap.size := (Array.getElem?_eq_some_iff.1 hh).1
  have hhp : ∀ x, x ≠ g → (ChangeMaps.setBlock w g (.map es' clock')).heap[x]? = w.heap[x]? := fun x hx => by simp [ChangeMaps.setBlock, Array.getElem?_setIfInBounds, Ne.symm hx]
  have hone : ∀ x, f j x ≤ 1 := fun x => by have := sumF_le f x _ j hjl; have := h.one x; omega
  have hR : ∀ x, X.R x → (ChangeMaps.setBlock w g (.map es' clock')).heap[x]? = w.heap[x]? := fun x hx => by
    have h3 := h.not_rd hx
    have h4 := sumF_le f x _ j hjl
    have h5 := hS x
    exact hhp x (by rintro rfl; simp at h5; omega)
  refine ⟨_, h.turn (w' := ChangeMaps.setBlock w g (.map es' clock')) (B := .m ks' rows' op' st') (u := u) (g := fun x => (if x = g then 1 else 0) + S' x) (L' := Ct.z) hs (fun _ _ _ h => h) (fun _ _ _ h => h) (by simp [ChangeMaps.setBlock]) rfl rfl rfl ?_ ?_ (fun x _ => ?_) (fun x hx => ?_) (Nat.le_refl _) (fun _ _ _ h => h) (fun _ _ _ h => h)⟩
  · intro x hx h0
    have := hS x
    exact hhp x (by rintro rfl; simp at this; omega)
  · refine .m hκ (RO.keep hR hro fun x hx => ?_) (by simp [ChangeMaps.setBlock, Array.getElem?_setIfInBounds, hgl]) hm hst fun _ => rfl
    have h5 := hS x
    have h6 := hone x
    have h7 := hle x
    exact hhp x (by rintro rfl; simp at h5; omega)
  · have := hS x; have := hle x; simp only [Ct.z]; omega
  · simp only [Ct.z]
    have h5 := hS x
    have h7 := hle x
    have h8 : f j x = 0 := by
      by_cases h8 : f j x = 0
      · exact h8
      · have := sumF_le f x _ j hjl
        have := h.own x (by omega); omega
    exact ⟨by omega, fun h0 => by omega⟩
theorem RV.one {v : Value} {S : Ct} (h : RV w φ κ R av v S) (hk : av.known = true) (ha : av.nag = true) : v.oneCell' = true := by
  cases h <;> first | assumption | rfl | (cases hk; done) | (cases ha; done)
/-- an entry is written, where there is one -/
theorem ap_mapUpd {T K E n : Nat} {x y z : Operand} {j u : Nat} {ks : List Value} {rows : List (List AV)} {st : Option (Nat × Nat × Nat)} {kv : Value} {i : TI} {sh : List Sh}
    (hg : o.guard = none) (ho : o.op = .mapUpdate T x y z) (hx : aev s x = .hd j u) (hs : s.b[j]? = some ⟨u, .m ks rows none st⟩) (hy : kvl (aev s y) = some kv) (hz : aev s z = av) (hav : av.known = true) (hag : av.nag = true) (hT : tt[T]? = some i) (hk : i.kd = .mp K E) (hf : flatT Try.prog 9 K = some sh) (hkv : isKey Try.prog K sh kv = true) (hks : ∀ k ∈ ks, isKey Try.prog K sh k = true)
    (hn : fnd kv ks = some n) (KK : AP Try.prog X ops Q rest (AS.put ⟨s.t, s.b.set j ⟨u, .m ks (rows.set n (cRow av)) (oRow n av) none⟩⟩ o.dst (.tu []))) : AP Try.prog X ops Q (o :: rest) s :=
  .runU hg (fun X φ κ f a w h => by
    obtain ⟨g, es, clock, us, S, he, hh, hm, hro, hst, hκ, hS⟩ := h.map_ hx hs
    have hyv := (h.ev y).kvl hy
    have hzv := h.evs hz
    have hone := hzv.one hav hag
    have hlen := hro.len
    obtain ⟨l1, l2⟩ := hm.kl
    have hnl := fnd_lt hn
    obtain ⟨k', hk', hkq⟩ := fnd_at hn
    obtain ⟨v0, hv0⟩ : ∃ v0, us[n]? = some v0 := ⟨_, List.getElem?_eq_getElem (by omega)⟩
    obtain ⟨e, hen, hek, hev⟩ := hm.at_ hk' hv0
    have hkk : k' = kv := (kEq_eq hkv (hks k' (List.mem_of_getElem? hk')) hkq).symm
    subst hkk
    have hfE : fndE k' es.toList = some (n, v0) := by simp only [fndE, hm.ky, hn]; simp [hen, hev]
    have e1 := run_findKey_flat (w := w) (es := es.toList) hf hkv (hm.keys hks)
    have hrun : (execOp a.eval o).run Try.prog w = .ok .skip (ChangeMaps.setBlock w g (.map (es.modify n fun e => { e with key := k', val := a.eval z }) clock)) := by
      have : (Instr.mapUpdate T (.map (some g)) k' (a.eval z)).run Try.prog w = .ok () (ChangeMaps.setBlock w g (.map (es.modify n fun e => { e with key := k', val := a.eval z }) clock)) := by
        simp [Instr.mapUpdate, run_underlying (ty_mp hT hk), MapKept.run_getObj_map hh, run_check false hf hkv, e1, hfE, hen, hek, run_stays hkv, MapKept.run_setObj_map _ hh, Result.andThen, ChangeMaps.setBlock]
      simp only [execOp, ho, he, hyv, Sem.run_bind, this]; rfl
    obtain ⟨S1, S2, r1, r2, r3⟩ := hro.drp (n := n) (by omega)
    have hm' := hm.mod hen (a.eval z) (fun e => { e with key := k', val := a.eval z }) (by rw [← hek])
    have hset : us.set n (a.eval z) = us.take n ++ [a.eval z] ++ us.drop (n + 1) := by rw [List.set_eq_take_append_cons_drop, if_pos (by omega)]; simp
    rw [hset] at hm'
    obtain ⟨f', h'⟩ := h.mapTurn hs hκ hh hS (RO.put r1 r2 (by omega) hzv hone _ fun _ => rfl) hm' (st' := none) trivial r3
    exact ⟨_, φ, κ, f', hrun, h'.puts o.dst (RV.tu RC.nil)⟩) KK
/-- an entry is written, where there is none -/
theorem ap_mapNew {T K E : Nat} {x y z : Operand} {j u : Nat} {ks : List Value} {rows : List (List AV)} {st : Option (Nat × Nat × Nat)} {kv : Value} {i : TI} {sh : List Sh}
    (hg : o.guard = none) (ho : o.op = .mapUpdate T x y z) (hx : aev s x = .hd j u) (hs : s.b[j]? = some ⟨u, .m ks rows none st⟩) (hy : kvl (aev s y) = some kv) (hz : aev s z = av) (hav : av.known = true) (hag : av.nag = true) (hT : tt[T]? = some i) (hk : i.kd = .mp K E) (hf : flatT Try.prog 9 K = some sh) (hkv : isKey Try.prog K sh kv = true) (hks : ∀ k ∈ ks, isKey Try.prog K sh k = true)
    (hn : fnd kv ks = none) (KK : AP Try.prog X ops Q rest (AS.put ⟨s.t, s.b.set j ⟨u, .m (ks ++ [kv]) (rows ++ [cRow av]) (oRow rows.length av) none⟩⟩ o.dst (.tu []))) : AP Try.prog X ops Q (o :: rest) s :=
  .runU hg (fun X φ κ f a w h => by
    obtain ⟨g, es, clock, us, S, he, hh, hm, hro, hst, hκ, hS⟩ := h.map_ hx hs
    have hyv := (h.ev y).kvl hy
    have hzv := h.evs hz
    have hone := hzv.one hav hag
    have hlen := hro.len
    obtain ⟨l1, l2⟩ := hm.kl
    have hfE : fndE kv es.toList = none := by simp only [fndE, hm.ky, hn]
    have e1 := run_findKey_flat (w := w) (es := es.toList) hf hkv (hm.keys hks)
    have hrun : (execOp a.eval o).run Try.prog w = .ok .skip (ChangeMaps.setBlock w g (.map (es.push ⟨kv, a.eval z, clock⟩) (clock + 1))) := by
      have : (Instr.mapUpdate T (.map (some g)) kv (a.eval z)).run Try.prog w = .ok () (ChangeMaps.setBlock w g (.map (es.push ⟨kv, a.eval z, clock⟩) (clock + 1))) := by
        simp [Instr.mapUpdate, run_underlying (ty_mp hT hk), MapKept.run_getObj_map hh, run_check false hf hkv, e1, hfE, MapKept.run_setObj_map _ hh, Result.andThen, ChangeMaps.setBlock]
      simp only [execOp, ho, he, hyv, Sem.run_bind, this]; rfl
    have hm' := hm.push kv (a.eval z)
    cases hro with
    | no hre =>
      rw [Nat.mul_one] at hlen
      have e3 := RO.put (rows := rows ++ [cRow av]) (us := us ++ [a.eval z]) (n := rows.length) (av := av) (v := a.eval z) (S := S) (S2 := Ct.z) (w := w) (φ := φ) (κ := κ) (R := X.R) (by simpa [hlen] using hre) (by rw [List.drop_of_length_le (by simp), List.drop_of_length_le (by simp; omega)]; exact .nil) (by simp) hzv hone S fun x => by simp [Ct.z]
      have q1 : (rows ++ [cRow av]).set rows.length (cRow av) = rows ++ [cRow av] := by simp
      have q2 : (us ++ [a.eval z]).take rows.length ++ [a.eval z] ++ (us ++ [a.eval z]).drop (rows.length + 1) = us ++ [a.eval z] := by simp [← hlen]
      rw [q1, q2] at e3
      obtain ⟨f', h'⟩ := h.mapTurn hs hκ hh hS e3 hm' (st' := none) trivial fun x => Nat.le_refl _
      exact ⟨_, φ, κ, f', hrun, h'.puts o.dst (RV.tu RC.nil)⟩) KK
/-- the entry is written by its stamp -/
theorem ap_stamp {T n : Nat} {x y z : Operand} {j u jd vd : Nat} {ks : List Value} {rows : List (List AV)}
    (hg : o.guard = none) (ho : o.op = .entryStore T x y z) (hx : aev s x = .hd j u) (hs : s.b[j]? = some ⟨u, .m ks rows none (some (n, jd, vd))⟩) (hy : aev s y = .hd jd vd) (hz : aev s z = av) (hav : av.known = true) (hag : av.nag = true)
    (KK : AP Try.prog X ops Q rest (AS.put ⟨s.t, s.b.set j ⟨u, .m ks (rows.set n (cRow av)) (oRow n av) none⟩⟩ o.dst (.tu []))) : AP Try.prog X ops Q (o :: rest) s :=
  .runU hg (fun X φ κ f a w h => by
    obtain ⟨g, es, clock, us, S, he, hh, hm, hro, hst, hκ, hS⟩ := h.map_ hx hs
    have hzv := h.evs hz
    have hone := hzv.one hav hag
    obtain ⟨e, hen, hkb⟩ := hst
    have hyv : a.eval y = goInt e.born := by
      have := h.evs hy
      generalize a.eval y = p at this
      cases this with
      | hd hκ' _ => rw [hkb] at hκ'; injection hκ' with e; exact e.symm
    obtain ⟨l1, l2⟩ := hm.kl
    have hlen := hro.len
    have hnl := (Array.getElem?_eq_some_iff.1 hen).1
    have hrun : (execOp a.eval o).run Try.prog w = .ok .skip (ChangeMaps.setBlock w g (.map (es.modify n fun e => { e with val := a.eval z }) clock)) := by
      have hb := hm.born hen
      have : (Instr.entryStore T (.map (some g)) (goInt e.born) (a.eval z)).run Try.prog w = .ok () (ChangeMaps.setBlock w g (.map (es.modify n fun e => { e with val := a.eval z }) clock)) := by
        simp [Instr.entryStore, MapKept.run_getObj_map hh, goInt, go_sem, hb, MapKept.run_setObj_map _ hh, Result.andThen, ChangeMaps.setBlock]
      simp only [execOp, ho, he, hyv, Sem.run_bind, this]; rfl
    obtain ⟨S1, S2, r1, r2, r3⟩ := hro.drp (n := n) (by omega)
    have hm' := hm.mod hen (a.eval z) (fun e => { e with val := a.eval z }) rfl
    have hset : us.set n (a.eval z) = us.take n ++ [a.eval z] ++ us.drop (n + 1) := by rw [List.set_eq_take_append_cons_drop, if_pos (by omega)]; simp
    rw [hset] at hm'
    obtain ⟨f', h'⟩ := h.mapTurn hs hκ hh hS (RO.put r1 r2 (by omega) hzv hone _ fun _ => rfl) hm' (st' := none) trivial r3
    exact ⟨_, φ, κ, f', hrun, h'.puts o.dst (RV.tu RC.nil)⟩) KK
end
end Go.Proofs.Ytkkabbdmfepbiaa

namespace Go.Proofs.Ytkkabbdmfepbiaa
set_option linter.unusedVariables false
set_option linter.unusedSimpArgs false
open Go.RowKit
set_option maxRecDepth 100000
section
variable {X : Cx} {φ φ' : Fi} {κ κ' : Ka} {f : Nat → Ct} {L L' : Ct} {s s' : AS} {a : Act} {w w' : World} {R : Nat → Prop} {o : Oper} {av : AV} {ops : Array Oper} {rest : List Oper} {Q : Exit → AS → Prop}
/-- what an array with an open row stands for -/
theorem SatW.opn_ (h : SatW X φ κ f L s a w) {j u k n : Nat} {e : TypeId} {rows : List (List AV)} {c : List AV} (hs : s.b[j]? = some ⟨u, .f e k rows n c⟩) :
    ∃ g cap cur us1 cs us2 S1 S2, κ j u = some (.slice (some ⟨g, 0, none⟩) rows.length cap) ∧ n < rows.length ∧ RE w φ κ X.R k (rows.take n) us1 S1 ∧ RC w φ κ X.R c cs Ct.z ∧ cs.length = k ∧ (∀ u ∈ cs, u.oneCell' = true) ∧ RE w φ κ X.R k (rows.drop (n + 1)) us2 S2 ∧
      Mk w g cur e ∧ rows.length ≤ cap ∧ cap ≤ maxLen ∧ cur.size = cap * k ∧ cur.toList.take (rows.length * k) = us1 ++ cs ++ us2 ∧ (∀ x, f j x = (if x = g then 1 else 0) + (S1 x + S2 x)) ∧ us1.length = n * k := by
  have h2 := h.sl j _ hs
  generalize f j = F at h2
  cases h2 with
  | @f _ _ _ _ _ g cap cur us S' _ hκ hro hmk hle hm hsz htk hS =>
    cases hro with
    | yes hn e1 e2 e3 e4 e6 e7 e8 =>
      have l1 := e1.length
      rw [List.length_take, Nat.min_eq_left (Nat.le_of_lt hn)] at l1
      exact ⟨g, cap, cur, _, _, _, _, _, hκ, hn, e1, e2, e3, e4, e6, hmk, hle, hm, hsz, by rw [htk, e7], fun x => by rw [hS, e8], l1⟩
theorem pq_index_f {T e e' : Nat} {x y : Operand} {b u k n : Nat} {rows : List (List AV)} {c : List AV} {i ie : TI} {kk : IntKind} {j : Int} (ho : o.op = .indexAddr T x y) (hx : aev s x = .hd b u) (hs : s.b[b]? = some ⟨u, .f e' k rows n c⟩) (hy : aev s y = .sc (.int kk j)) (hT : tt[T]? = some i) (hk : i.kd = .sl e) (he : tt[e]? = some ie) (hsz : ie.size = k)
    (h0 : 0 ≤ j) (hj : j < rows.length) : Pq Try.prog X s o (.ep b u k j.toNat 0) := .of_run fun X φ κ f a w h => by
  obtain ⟨g, cap, cur, us1, cs, us2, S1, S2, hκ, _⟩ := h.opn_ hs
  have h1 := h.evs hx
  have h2 := h.evc hy
  generalize hp : a.eval x = p at h1
  cases h1 with
  | hd hκ' _ =>
    rw [hκ] at hκ'; injection hκ' with e; subst e
    refine ⟨_, .ep hκ, fun w' _ => ?_⟩
    simp only [execOp, ho, hp, h2, Sem.run_bind, run_index hT hk he h0 hj w']; simp [go_sem, hsz]
theorem pq_len_f {T e e' k b u n : Nat} {x : Operand} {rows : List (List AV)} {c : List AV} {i : TI} (ho : o.op = .call { callee := .builtin .len, args := #[x], argTypes := #[T] }) (hx : aev s x = .hd b u) (hs : s.b[b]? = some ⟨u, .f e' k rows n c⟩) (hT : tt[T]? = some i) (hk : i.kd = .sl e) : Pq Try.prog X s o (.sc (.int .i64 rows.length)) := .of_run fun X φ κ f a w h => by
  obtain ⟨g, cap, cur, us1, cs, us2, S1, S2, hκ, _⟩ := h.opn_ hs
  have h1 := h.evs hx
  generalize hp : a.eval x = p at h1
  cases h1 with
  | hd hκ' _ =>
    rw [hκ] at hκ'; injection hκ' with e; subst e
    exact ⟨_, .sc rfl, fun w' _ => run_len (ty := 0) ho fun ty => by rw [hp]; exact len_ty (tys := #[T]) hT hk ty w'⟩
/-- the open row's cells -/
theorem SatW.elemf (h : SatW X φ κ f L s a w) {x : Operand} {b u k n off : Nat} {e : TypeId} {rows : List (List AV)} {c : List AV} (hx : aev s x = .ep b u k n off) (hs : s.b[b]? = some ⟨u, .f e k rows n c⟩) :
    ∃ g cs, a.eval x = .pointer (some ⟨g, n * k + off, none⟩) ∧ RC w φ κ X.R c cs Ct.z ∧ cs.length = k ∧ (∀ u ∈ cs, u.oneCell' = true) ∧ ∀ w', Below w.heap.size w w' → w'.rangeAt g (n * k) cs := by
  obtain ⟨g, cap, cur, us1, cs, us2, S1, S2, hκ, hn, e1, e2, e3, e4, e6, hmk, hle, hm, hsz, htk, hS, l1⟩ := h.opn_ hs
  have h1 := h.evs hx
  generalize hp : a.eval x = p at h1
  cases h1 with
  | ep hκ' =>
    rw [hκ] at hκ'; injection hκ' with e; injection e with e; injection e with e; injection e with e; subst e
    refine ⟨g, cs, rfl, e2, e3, e4, fun w' hb j v hv => ?_⟩
    rw [(Mk.keep (hb.block g hmk.lt) hmk).cell (n * k + j)]
    have hjl : j < cs.length := (List.getElem?_eq_some_iff.1 hv).1
    have h5 : (cur.toList.take (rows.length * k))[n * k + j]? = some v := by
      rw [htk, List.append_assoc, List.getElem?_append_right (by omega), l1, Nat.add_sub_cancel_left, List.getElem?_append_left hjl]; exact hv
    rw [List.getElem?_take] at h5
    split at h5
    · simpa using h5
    · cases h5
theorem pq_load1_f {T : TypeId} {x : Operand} {b u k n off : Nat} {e : TypeId} {rows : List (List AV)} {c : List AV} {ti : TI} (ho : o.op = .load T x) (hx : aev s x = .ep b u k n off) (hs : s.b[b]? = some ⟨u, .f e k rows n c⟩)
    (hT : tt[T]? = some ti) (hk : rowK ti.kd = false) (hl : c[off]? = some av) : Pq Try.prog X s o av := .of_run fun X φ κ f a w h => by
  obtain ⟨d, hd, hr, _⟩ := ty_flat hT hk
  obtain ⟨g, cs, he, hrc, hkl, _, hrange⟩ := h.elemf hx hs
  obtain ⟨v, hv, hrv⟩ := hrc.at_ hl
  refine ⟨v, hrv, fun w' hb => ?_⟩
  simp only [execOp, ho, he, Sem.run_bind, run_loadAt_flat w' hd hr (hrange w' hb off v hv)]; simp [go_sem]
theorem pq_loadN_f {T : TypeId} {x : Operand} {b u k n off : Nat} {e : TypeId} {rows : List (List AV)} {c : List AV} {ti : TI} (ho : o.op = .load T x) (hx : aev s x = .ep b u k n off) (hs : s.b[b]? = some ⟨u, .f e k rows n c⟩)
    (hT : tt[T]? = some ti) (hk : rowK ti.kd = true) (hl : Nat.ble (off + ti.size) c.length = true) : Pq Try.prog X s o (.ag ((c.drop off).take ti.size)) := .of_run fun X φ κ f a w h => by
  have hl := Nat.le_of_ble_eq_true hl
  obtain ⟨d, hd, hr, hi⟩ := ty_row hT hk
  obtain ⟨g, cs, he, hrc, hkl, h1, hrange⟩ := h.elemf hx hs
  have hlen := hrc.length
  refine ⟨_, .ag (hrc.drop_ off ti.size) (fun v hv => h1 v (List.mem_of_mem_drop (List.mem_of_mem_take hv))), fun w' hb => ?_⟩
  have hr2 : w'.rangeAt g (n * k + off) ((cs.drop off).take ti.size) := fun j v hv => by
    rw [List.getElem?_take] at hv
    split at hv
    · rw [List.getElem?_drop] at hv
      have := hrange w' hb _ _ hv
      rwa [show n * k + off + j = n * k + (off + j) by omega]
    · cases hv
  simp only [execOp, ho, he, Sem.run_bind, run_loadAt_mid w' g (n * k + off) T _ d hr2 hd hr (by rw [hi]; simp; omega)]; simp [go_sem]
theorem spl_append_mid {α : Type} : ∀ (r a b c : List α) (o : Nat), o + r.length ≤ b.length → spl (a ++ b ++ c) (a.length + o) r = a ++ spl b o r ++ c
  | [], _, _, _, _, _ => rfl
  | x :: r, a, b, c, o, h => by
    simp only [spl]
    have h1 : (a ++ b ++ c).set (a.length + o) x = a ++ b.set o x ++ c := by
      rw [List.append_assoc, List.set_append_right _ _ (by omega), Nat.add_sub_cancel_left, List.set_append_left _ _ (by simp at h; omega), List.append_assoc]
    rw [h1, Nat.add_assoc, spl_append_mid r a (b.set o x) c (o + 1) (by simp at h ⊢; omega)]
theorem Mk.spl {g : Nat} {cur : Array Value} {e : TypeId} (h : Mk w g cur e) : ∀ (us : List Value) (o : Nat), Mk (w.setCells g o us) g (spl cur.toList o us).toArray e := by
  intro us o
  induction us generalizing w cur o with
  | nil => simpa [Go.Proofs.Ytkkabbdmfepbiaa.spl, World.setCells] using h
  | cons u us ih =>
    have h1 : Mk (w.setCell ⟨g, o, none⟩ u) g (cur.setIfInBounds o u) e := by
      obtain ⟨z, hz1, hz2⟩ := h
      exact ⟨z, by simp [World.setCell, Array.getElem?_modify, hz1], by simpa using hz2⟩
    have := ih h1 (o + 1)
    simpa [Go.Proofs.Ytkkabbdmfepbiaa.spl, World.setCells] using this
/-- a store into the open row -/
theorem ap_storeF {T k n : Nat} {e : TypeId} {x y : Operand} {b u off : Nat} {rows : List (List AV)} {c : List AV} {ti : TI} (hg : o.guard = none) (ho : o.op = .store T x y) (hx : aev s x = .ep b u k n off) (hs : s.b[b]? = some ⟨u, .f e k rows n c⟩) (hy : aev s y = av) (hkn : av.known = true)
    (hT : tt[T]? = some ti) (hn : av.cells.length = ti.size) (hl : Nat.ble (off + ti.size) c.length = true)
    (K : AP Try.prog X ops Q rest (AS.put ⟨s.t, s.b.set b ⟨u, .f e k rows n (spl c off av.cells)⟩⟩ o.dst (.tu []))) : AP Try.prog X ops Q (o :: rest) s :=
  .runU hg (fun X φ κ f a w h => by
    have hl := Nat.le_of_ble_eq_true hl
    obtain ⟨hr, h1⟩ := (h.evs hy).cells_ hkn
    obtain ⟨g, cap, cur, us1, cs, us2, S1, S2, hκ, hnl, e1, e2, e3, e4, e6, hmk, hle, hm, hsz, htk, hS, l1⟩ := h.opn_ hs
    obtain ⟨g', cs', he, _, _, _, _⟩ := h.elemf hx hs
    have hgg : g' = g := by
      have h2 := h.evs hx
      rw [he] at h2
      cases h2 with
      | ep hκ' => rw [hκ] at hκ'; injection hκ' with e; injection e with e; injection e with e; injection e with e; exact e.symm
    subst hgg
    obtain ⟨d, j, hd, hj, _, hjs, _⟩ := TI.parts (ty hT)
    have hbl : b < s.b.length := (List.getElem?_eq_some_iff.1 hs).1
    have hgl := hmk.lt
    have hlen := hr.length
    have hclen := e2.length
    have hpos : n * k + k ≤ rows.length * k := by
      have : (n + 1) * k ≤ rows.length * k := Nat.mul_le_mul_right k hnl
      rw [Nat.add_mul] at this; omega
    have hpos2 : rows.length * k ≤ cur.size := by rw [hsz]; exact Nat.mul_le_mul_right k hle
    have hth : w.there g' (n * k + off) ti.size := fun i hi => by
      refine ⟨?_, hmk.frozen (by omega)⟩
      rw [hmk.cell]
      simp; omega
    have hrun := run_storeAny (P := Try.prog) (T := T) (b := g') (off := n * k + off) (v := a.eval y) w (n := ti.size) (by rw [hj]; simp [hjs]) (by rw [← hn, ← hlen]; simp) h1 hth
    have hrun' : (execOp a.eval o).run Try.prog w = .ok .skip (w.setCells g' (n * k + off) (a.eval y).cells.toList) := by
      simp only [execOp, ho, he, Sem.run_bind, hrun]; rfl
    have hone : ∀ x, f b x ≤ 1 := fun x => by have := sumF_le f x _ b hbl; have := h.one x; omega
    generalize hU : (a.eval y).cells.toList = us at hr h1 hlen hrun'
    have hmk' := hmk.spl us (n * k + off)
    have hblk : ∀ x, x ≠ g' → (w.setCells g' (n * k + off) us).heap[x]? = w.heap[x]? := fun x hx => heap_setCells_ne g' _ _ w x hx
    have hR : ∀ x, X.R x → (w.setCells g' (n * k + off) us).heap[x]? = w.heap[x]? := fun x hx => by
      have h3 := h.not_rd hx
      have h4 := sumF_le f x _ b hbl
      have h5 := hS x
      exact hblk x (by rintro rfl; simp at h5; omega)
    have hSk : ∀ x, S1 x + S2 x ≠ 0 → (w.setCells g' (n * k + off) us).heap[x]? = w.heap[x]? := fun x hx => by
      have h5 := hS x
      have h6 := hone x
      exact hblk x (by rintro rfl; simp at h5; omega)
    have hol : off + us.length ≤ cs.length := by omega
    have htk' : ((spl cur.toList (n * k + off) us).toArray.toList).take (rows.length * k) = us1 ++ spl cs off us ++ us2 := by
      have h7 : cur.toList = us1 ++ cs ++ (us2 ++ cur.toList.drop (rows.length * k)) := by
        have := List.take_append_drop (rows.length * k) cur.toList
        rw [htk] at this
        rw [← List.append_assoc]; exact this.symm
      have h8 : (us1 ++ cs ++ us2).length = rows.length * k := by rw [← htk, List.length_take]; simp; omega
      have h9 : spl cur.toList (n * k + off) us = us1 ++ spl cs off us ++ (us2 ++ cur.toList.drop (rows.length * k)) := by
        conv => lhs; rw [h7]
        rw [← l1]
        exact spl_append_mid us us1 cs _ off hol
      have h10 : (us1 ++ spl cs off us ++ us2).length = rows.length * k := by rw [← h8]; simp [spl_length]
      show (spl cur.toList (n * k + off) us).take (rows.length * k) = _
      rw [h9, ← List.append_assoc, ← h10, List.take_left]
    refine ⟨_, φ, κ, updF f b (fun x => (if x = g' then 1 else 0) + (S1 x + S2 x)), hrun', SatW.puts ?_ o.dst (RV.tu RC.nil)⟩
    refine h.turn (w' := w.setCells g' (n * k + off) us) hs (fun _ _ _ h => h) (fun _ _ _ h => h) (by rw [size_setCells]; exact Nat.le_refl _) (os_setCells' g' _ _ w) (tape_setCells g' _ _ w) (out_setCells g' _ _ w) ?_ (.f hκ (.yes hnl (RE.keep hR e1 fun x hx => hSk x (by omega)) (RC.keep hR (e2.spl_ hr) fun x hx => absurd rfl hx) (by rw [spl_length]; exact e3) (spl_one e4 h1) (RE.keep hR e6 fun x hx => hSk x (by omega)) rfl fun _ => rfl) hmk' hle hm (by simpa [spl_length] using hsz) htk' fun _ => rfl) (g := fun x => (if x = g' then 1 else 0) + (S1 x + S2 x)) (L' := Ct.z) ?_ ?_ (Nat.le_refl _) (fun _ _ _ h => h) (fun _ _ _ h => h)
    · intro x hx h0
      have := hS x
      exact hblk x (by rintro rfl; simp at this; omega)
    · intro x hx; have := hS x; simp only [Ct.z]; omega
    · intro x hx; simp only [Ct.z]
      have h8 : f b x = 0 := by
        by_cases h8 : f b x = 0
        · exact h8
        · have := sumF_le f x _ b hbl
          have := h.own x (by omega); omega
      have := hS x
      exact ⟨by omega, fun h0 => by omega⟩) K
def delK {α : Type} (l : List α) : Option Nat → List α
  | some n => l.eraseIdx n
  | none => l
/-- taken out of a map -/
theorem run_del {x y : Operand} {tys : Array TypeId} {a : Act} {v : Value} (ho : o.op = .call { callee := .builtin .delete, args := #[x, y], argTypes := tys }) (h : ∀ ty, (Builtin.delete_ tys ty #[a.eval x, a.eval y]).run Try.prog w = .ok v w') :
    (execOp a.eval o).run Try.prog w = .ok (.value v) w' := by
  simp only [execOp, ho, resolve, invoke, builtin, Sem.run_bind, Sem.run_pure, Result.andThen_ok, List.map_toArray, List.map_cons, List.map_nil, h]
theorem ap_del {T K E : Nat} {x y : Operand} {j u : Nat} {ks : List Value} {rows : List (List AV)} {st : Option (Nat × Nat × Nat)} {kv : Value} {i : TI} {sh : List Sh} {r : Option Nat}
    (hg : o.guard = none) (ho : o.op = .call { callee := .builtin .delete, args := #[x, y], argTypes := #[T, K] }) (hx : aev s x = .hd j u) (hs : s.b[j]? = some ⟨u, .m ks rows none st⟩) (hy : kvl (aev s y) = some kv) (hT : tt[T]? = some i) (hk : i.kd = .mp K E) (hf : flatT Try.prog 9 K = some sh) (hkv : isKey Try.prog K sh kv = true) (hks : ∀ k ∈ ks, isKey Try.prog K sh k = true)
    (hn : fnd kv ks = r) (KK : AP Try.prog X ops Q rest (AS.put ⟨s.t, s.b.set j ⟨u, .m (delK ks r) (delK rows r) none none⟩⟩ o.dst (.tu []))) : AP Try.prog X ops Q (o :: rest) s :=
  .run hg (fun X φ κ f a w h => by
    obtain ⟨g, es, clock, us, S, he, hh, hm, hro, hst, hκ, hS⟩ := h.map_ hx hs
    have hyv := (h.ev y).kvl hy
    have hlen := hro.len
    obtain ⟨l1, l2⟩ := hm.kl
    have e1 := run_findKey_flat (w := w) (es := es.toList) hf hkv (hm.keys hks)
    cases r with
    | none =>
      have hfE : fndE kv es.toList = none := by simp only [fndE, hm.ky, hn]
      have hrun : (execOp a.eval o).run Try.prog w = .ok (.value (.tuple #[])) (ChangeMaps.setBlock w g (.map es clock)) := run_del ho fun ty => by
        rw [he, hyv]
        simp [Builtin.delete_, run_underlying (ty_mp hT hk), MapKept.run_getObj_map hh, run_check es.isEmpty hf hkv, e1, hfE, MapKept.run_setObj_map _ hh, Result.andThen, ChangeMaps.setBlock]
      obtain ⟨f', h'⟩ := h.mapTurn hs hκ hh hS hro hm (st' := none) trivial fun x => Nat.le_refl _
      exact ⟨_, _, φ, κ, f', hrun, h'.puts o.dst (RV.tu RC.nil)⟩
    | some n =>
      have hnl := fnd_lt hn
      have hfE : ∃ v, fndE kv es.toList = some (n, v) := by simp only [fndE, hm.ky, hn]; exact ⟨_, rfl⟩
      obtain ⟨v0, hfE⟩ := hfE
      have hrun : (execOp a.eval o).run Try.prog w = .ok (.value (.tuple #[])) (ChangeMaps.setBlock w g (.map (es.eraseIdxIfInBounds n) clock)) := run_del ho fun ty => by
        rw [he, hyv]
        simp [Builtin.delete_, run_underlying (ty_mp hT hk), MapKept.run_getObj_map hh, run_check es.isEmpty hf hkv, e1, hfE, MapKept.run_setObj_map _ hh, Result.andThen, ChangeMaps.setBlock]
      obtain ⟨S1, S2, r1, r2, r3⟩ := hro.drp (n := n) (by omega)
      have q := r1.append (U := fun x => S1 x + S2 x) r2 fun _ => rfl
      rw [← List.eraseIdx_eq_take_drop_succ, ← List.eraseIdx_eq_take_drop_succ] at q
      obtain ⟨f', h'⟩ := h.mapTurn hs hκ hh hS (.no q) (hm.erase n) (st' := none) trivial r3
      exact ⟨_, _, φ, κ, f', hrun, h'.puts o.dst (RV.tu RC.nil)⟩) KK
/-- a map of one's own isn't nil -/
theorem run_eq_map {P : Program} {T K E : TypeId} (hT : P.underlying T = some (.map K E)) (p : Option Nat) (w : World) : (Op.equal T (.map p) (.map none)).run P w = .ok p.isNone w := by
  have key : ∀ d, (Op.equalIn (d + 1) T (.map p) (.map none)).run P w = .ok p.isNone w := fun d => by
    cases p <;> simp [Op.equalIn, run_underlying hT]
  exact key 9999
theorem run_bin_map {op : BinOp} {T T' K E : TypeId} {x y : Operand} {a : Act} {p : Option Nat} {r : Bool} (hT : Try.prog.underlying T = some (.map K E)) (ho : o.op = .binOp op T x y T') (hx : a.eval x = .map p) (hy : a.eval y = .map none) (hr : nilB op p.isNone = some r) (w : World) :
    (execOp a.eval o).run Try.prog w = .ok (.value (.bool r)) w := by
  unfold nilB at hr
  cases op <;> simp only [Option.some.injEq, reduceCtorEq] at hr <;> subst hr <;> simp only [execOp, ho, hx, hy] <;>
    simp [eqGuard, binOp, run_eq_map hT, go_sem]
theorem pq_mnil {op : BinOp} {T T' K E : TypeId} {x y : Operand} {j u : Nat} {ks : List Value} {rows : List (List AV)} {p : Option (Nat × List AV)} {st : Option (Nat × Nat × Nat)} {i : TI} {r : Bool} (ho : o.op = .binOp op T x y T') (hx : aev s x = .hd j u) (hs : s.b[j]? = some ⟨u, .m ks rows p st⟩) (hy : aev s y = .sc (.map none)) (hr : nilB op false = some r) (hT : tt[T]? = some i) (hk : i.kd = .mp K E) : Pq Try.prog X s o (.sc (.bool r)) := .of_run fun X φ κ f a w h => by
  obtain ⟨g, es, clock, us, S, he, _⟩ := h.map_ hx hs
  exact ⟨_, .sc rfl, fun w' _ => run_bin_map (ty_mp hT hk) ho he (h.evc hy) hr w'⟩
theorem pq_mnn {op : BinOp} {T T' K E : TypeId} {x y : Operand} {i : TI} {r : Bool} (ho : o.op = .binOp op T x y T') (hx : aev s x = .sc (.map none)) (hy : aev s y = .sc (.map none)) (hr : nilB op true = some r) (hT : tt[T]? = some i) (hk : i.kd = .mp K E) : Pq Try.prog X s o (.sc (.bool r)) := .of_run fun X φ κ f a w h =>
  ⟨_, .sc rfl, fun w' _ => run_bin_map (ty_mp hT hk) ho (h.evc hx) (h.evc hy) hr w'⟩
end
theorem rowAt_open {rows : List (List AV)} {n : Nat} {a : AV} {l : List AV} : rowAt rows (some (n, a :: l)) n = some a := by
  have : Nat.beq n n = true := Nat.beq_refl n
  simp [rowAt, this]
section
variable {X : Cx} {s : AS} {ops : Array Oper} {rest : List Oper} {Q : Exit → AS → Prop} {av : AV} {d : Option Nat} {ty : Nat} {pos : String} {aft : Array Edge} {T K E n : Nat} {x y z : Operand} {j u : Nat} {ks : List Value} {rows : List (List AV)} {op : Option (Nat × List AV)} {st : Option (Nat × Nat × Nat)} {kv : Value} {i ie : TI} {sh : List Sh} {c : ZC}
theorem AP.LK (KK : AP Try.prog X ops Q rest (s.put d av)) (hx : aev s x = .hd j u := by exact rfl) (hs : s.b[j]? = some ⟨u, .m ks rows op st⟩ := by exact rfl) (hy : kvl (aev s y) = some kv := by exact rfl) (hT : tt[T]? = some i := by exact rfl) (hk : i.kd = .mp K E := by exact rfl) (hks : ∀ k ∈ ks, isKey Try.prog K sh k = true := by with_reducible assumption) (hf : flatT Try.prog 9 K = some sh := by kernel_rfl) (hkv : isKey Try.prog K sh kv = true := by kernel_rfl)
    (hn : fnd kv ks = some n := by assumption) (hr : rowAt rows op n = some av := by first | assumption | exact rowAt_open | exact rfl) : AP Try.prog X ops Q (⟨d, .lookup T x y false, ty, pos, aft, none⟩ :: rest) s := AP.pure rfl (pq_look (ok := false) rfl hx hs hy hT hk hf hkv hks hn hr) KK
theorem AP.LK2 (KK : AP Try.prog X ops Q rest (s.put d (.tu [av, .sc (.bool true)]))) (hx : aev s x = .hd j u := by exact rfl) (hs : s.b[j]? = some ⟨u, .m ks rows op st⟩ := by exact rfl) (hy : kvl (aev s y) = some kv := by exact rfl) (hT : tt[T]? = some i := by exact rfl) (hk : i.kd = .mp K E := by exact rfl) (hks : ∀ k ∈ ks, isKey Try.prog K sh k = true := by with_reducible assumption) (hf : flatT Try.prog 9 K = some sh := by kernel_rfl) (hkv : isKey Try.prog K sh kv = true := by kernel_rfl)
    (hn : fnd kv ks = some n := by assumption) (hr : rowAt rows op n = some av := by first | assumption | exact rowAt_open | exact rfl) : AP Try.prog X ops Q (⟨d, .lookup T x y true, ty, pos, aft, none⟩ :: rest) s := AP.pure rfl (pq_look (ok := true) rfl hx hs hy hT hk hf hkv hks hn hr) KK
theorem AP.LN (KK : AP Try.prog X ops Q rest (s.put d (.sc c.val))) (hx : aev s x = .hd j u := by exact rfl) (hs : s.b[j]? = some ⟨u, .m ks rows op st⟩ := by exact rfl) (hy : kvl (aev s y) = some kv := by exact rfl) (hT : tt[T]? = some i := by exact rfl) (hk : i.kd = .mp K E := by exact rfl) (hE : tt[E]? = some ie := by exact rfl) (hz : ie.zero = some [c] := by exact rfl) (hrk : rowK ie.kd = false := by exact rfl) (hks : ∀ k ∈ ks, isKey Try.prog K sh k = true := by with_reducible assumption) (hf : flatT Try.prog 9 K = some sh := by kernel_rfl) (hkv : isKey Try.prog K sh kv = true := by kernel_rfl)
    (hn : fnd kv ks = none := by assumption) : AP Try.prog X ops Q (⟨d, .lookup T x y false, ty, pos, aft, none⟩ :: rest) s := AP.pure rfl (pq_lookN (ok := false) rfl hx hs hy hT hk hE hz hrk hf hkv hks hn) KK
theorem AP.LN2 (KK : AP Try.prog X ops Q rest (s.put d (.tu [.sc c.val, .sc (.bool false)]))) (hx : aev s x = .hd j u := by exact rfl) (hs : s.b[j]? = some ⟨u, .m ks rows op st⟩ := by exact rfl) (hy : kvl (aev s y) = some kv := by exact rfl) (hT : tt[T]? = some i := by exact rfl) (hk : i.kd = .mp K E := by exact rfl) (hE : tt[E]? = some ie := by exact rfl) (hz : ie.zero = some [c] := by exact rfl) (hrk : rowK ie.kd = false := by exact rfl) (hks : ∀ k ∈ ks, isKey Try.prog K sh k = true := by with_reducible assumption) (hf : flatT Try.prog 9 K = some sh := by kernel_rfl) (hkv : isKey Try.prog K sh kv = true := by kernel_rfl)
    (hn : fnd kv ks = none := by assumption) : AP Try.prog X ops Q (⟨d, .lookup T x y true, ty, pos, aft, none⟩ :: rest) s := AP.pure rfl (pq_lookN (ok := true) rfl hx hs hy hT hk hE hz hrk hf hkv hks hn) KK
theorem AP.MM (KK : AP Try.prog X ops Q rest (AS.put ⟨s.t, (newS s.b (.m [] [] none none)).2⟩ d (.hd (newS s.b (.m [] [] none none)).1.1 (newS s.b (.m [] [] none none)).1.2))) : AP Try.prog X ops Q (⟨d, .makeMap T none, ty, pos, aft, none⟩ :: rest) s := ap_makeMap rfl rfl KK
theorem AP.MU (KK : AP Try.prog X ops Q rest (AS.put ⟨s.t, s.b.set j ⟨u, .m ks (rows.set n (cRow av)) (oRow n av) none⟩⟩ d (.tu []))) (hx : aev s x = .hd j u := by exact rfl) (hs : s.b[j]? = some ⟨u, .m ks rows none st⟩ := by exact rfl) (hy : kvl (aev s y) = some kv := by exact rfl) (hz : aev s z = av := by exact rfl) (hav : av.known = true := by exact rfl) (hag : av.nag = true := by exact rfl) (hT : tt[T]? = some i := by exact rfl) (hk : i.kd = .mp K E := by exact rfl) (hks : ∀ k ∈ ks, isKey Try.prog K sh k = true := by with_reducible assumption) (hf : flatT Try.prog 9 K = some sh := by kernel_rfl) (hkv : isKey Try.prog K sh kv = true := by kernel_rfl)
    (hn : fnd kv ks = some n := by assumption) : AP Try.prog X ops Q (⟨d, .mapUpdate T x y z, ty, pos, aft, none⟩ :: rest) s := ap_mapUpd rfl rfl hx hs hy hz hav hag hT hk hf hkv hks hn KK
theorem AP.MN (KK : AP Try.prog X ops Q rest (AS.put ⟨s.t, s.b.set j ⟨u, .m (ks ++ [kv]) (rows ++ [cRow av]) (oRow rows.length av) none⟩⟩ d (.tu []))) (hx : aev s x = .hd j u := by exact rfl) (hs : s.b[j]? = some ⟨u, .m ks rows none st⟩ := by exact rfl) (hy : kvl (aev s y) = some kv := by exact rfl) (hz : aev s z = av := by exact rfl) (hav : av.known = true := by exact rfl) (hag : av.nag = true := by exact rfl) (hT : tt[T]? = some i := by exact rfl) (hk : i.kd = .mp K E := by exact rfl) (hks : ∀ k ∈ ks, isKey Try.prog K sh k = true := by with_reducible assumption) (hf : flatT Try.prog 9 K = some sh := by kernel_rfl) (hkv : isKey Try.prog K sh kv = true := by kernel_rfl)
    (hn : fnd kv ks = none := by assumption) : AP Try.prog X ops Q (⟨d, .mapUpdate T x y z, ty, pos, aft, none⟩ :: rest) s := ap_mapNew rfl rfl hx hs hy hz hav hag hT hk hf hkv hks hn KK
theorem AP.MS {jd vd : Nat} (KK : AP Try.prog X ops Q rest (AS.put ⟨s.t, s.b.set j ⟨u, .m ks (rows.set n (cRow av)) (oRow n av) none⟩⟩ d (.tu []))) (hx : aev s x = .hd j u := by exact rfl) (hs : s.b[j]? = some ⟨u, .m ks rows none (some (n, jd, vd))⟩ := by exact rfl) (hy : aev s y = .hd jd vd := by exact rfl) (hz : aev s z = av := by exact rfl) (hav : av.known = true := by exact rfl) (hag : av.nag = true := by exact rfl) : AP Try.prog X ops Q (⟨d, .entryStore T x y z, ty, pos, aft, none⟩ :: rest) s := ap_stamp rfl rfl hx hs hy hz hav hag KK
theorem AP.MD {r : Option Nat} (KK : AP Try.prog X ops Q rest (AS.put ⟨s.t, s.b.set j ⟨u, .m (delK ks r) (delK rows r) none none⟩⟩ d (.tu []))) (hx : aev s x = .hd j u := by exact rfl) (hs : s.b[j]? = some ⟨u, .m ks rows none st⟩ := by exact rfl) (hy : kvl (aev s y) = some kv := by exact rfl) (hT : tt[T]? = some i := by exact rfl) (hk : i.kd = .mp K E := by exact rfl) (hks : ∀ k ∈ ks, isKey Try.prog K sh k = true := by with_reducible assumption) (hf : flatT Try.prog 9 K = some sh := by kernel_rfl) (hkv : isKey Try.prog K sh kv = true := by kernel_rfl)
    (hn : fnd kv ks = r := by assumption) : AP Try.prog X ops Q (⟨d, .call { callee := .builtin .delete, args := #[x, y], argTypes := #[T, K] }, ty, pos, aft, none⟩ :: rest) s := ap_del rfl rfl hx hs hy hT hk hf hkv hks hn KK
theorem AP.MZ {bo : BinOp} {T' : TypeId} {r : Bool} (KK : AP Try.prog X ops Q rest (s.put d (.sc (.bool r)))) (hx : aev s x = .hd j u := by exact rfl) (hs : s.b[j]? = some ⟨u, .m ks rows op st⟩ := by exact rfl) (hy : aev s y = .sc (.map none) := by exact rfl) (hr : nilB bo false = some r := by exact rfl) (hT : tt[T]? = some i := by exact rfl) (hk : i.kd = .mp K E := by exact rfl) : AP Try.prog X ops Q (⟨d, .binOp bo T x y T', ty, pos, aft, none⟩ :: rest) s := AP.pure rfl (pq_mnil rfl hx hs hy hr hT hk) KK
theorem AP.MZ0 {bo : BinOp} {T' : TypeId} {r : Bool} (KK : AP Try.prog X ops Q rest (s.put d (.sc (.bool r)))) (hx : aev s x = .sc (.map none) := by exact rfl) (hy : aev s y = .sc (.map none) := by exact rfl) (hr : nilB bo true = some r := by exact rfl) (hT : tt[T]? = some i := by exact rfl) (hk : i.kd = .mp K E := by exact rfl) : AP Try.prog X ops Q (⟨d, .binOp bo T x y T', ty, pos, aft, none⟩ :: rest) s := AP.pure rfl (pq_mnn rfl hx hy hr hT hk) KK
/-! open rows -/
variable {e e' k off b : Nat} {cl : List AV} {ti : TI} {kk : IntKind} {jj : Int}
theorem AP.FI (KK : AP Try.prog X ops Q rest (s.put d (.ep b u k jj.toNat 0))) (hx : aev s x = .hd b u := by exact rfl) (hs : s.b[b]? = some ⟨u, .f e' k rows n cl⟩ := by exact rfl) (hy : aev s y = .sc (.int kk jj) := by exact rfl) (hT : tt[T]? = some i := by exact rfl) (hk : i.kd = .sl e := by exact rfl) (he : tt[e]? = some ie := by exact rfl) (hsz : ie.size = k := by exact rfl) (h0 : 0 ≤ jj ∧ jj < rows.length := by ((repeat' (with_reducible apply And.intro)) <;> (first | exact True.intro | exact rfl | omega | decide | (simp; omega) | (simp; done) | assumption | exact .inl rfl | (refine .inr ?_; simp; try omega)))) : AP Try.prog X ops Q (⟨d, .indexAddr T x y, ty, pos, aft, none⟩ :: rest) s := AP.pure rfl (pq_index_f rfl hx hs hy hT hk he hsz h0.1 h0.2) KK
theorem AP.FL (KK : AP Try.prog X ops Q rest (s.put d (.sc (.int .i64 rows.length)))) (hx : aev s x = .hd b u := by exact rfl) (hs : s.b[b]? = some ⟨u, .f e' k rows n cl⟩ := by exact rfl) (hT : tt[T]? = some i := by exact rfl) (hk : i.kd = .sl e := by exact rfl) : AP Try.prog X ops Q (⟨d, .call { callee := .builtin .len, args := #[x], argTypes := #[T] }, ty, pos, aft, none⟩ :: rest) s := AP.pure rfl (pq_len_f rfl hx hs hT hk) KK
theorem AP.F1 (KK : AP Try.prog X ops Q rest (s.put d av)) (hx : aev s x = .ep b u k n off := by exact rfl) (hs : s.b[b]? = some ⟨u, .f e k rows n cl⟩ := by exact rfl) (hT : tt[T]? = some ti := by exact rfl) (hk : rowK ti.kd = false := by exact rfl) (hl : cl[off]? = some av := by exact rfl) : AP Try.prog X ops Q (⟨d, .load T x, ty, pos, aft, none⟩ :: rest) s := AP.pure rfl (pq_load1_f rfl hx hs hT hk hl) KK
theorem AP.FN (KK : AP Try.prog X ops Q rest (s.put d (.ag ((cl.drop off).take ti.size)))) (hx : aev s x = .ep b u k n off := by exact rfl) (hs : s.b[b]? = some ⟨u, .f e k rows n cl⟩ := by exact rfl) (hT : tt[T]? = some ti := by exact rfl) (hk : rowK ti.kd = true := by exact rfl) (hl : Nat.ble (off + ti.size) cl.length = true := by exact rfl) : AP Try.prog X ops Q (⟨d, .load T x, ty, pos, aft, none⟩ :: rest) s := AP.pure rfl (pq_loadN_f rfl hx hs hT hk hl) KK
theorem AP.FT (KK : AP Try.prog X ops Q rest (AS.put ⟨s.t, s.b.set b ⟨u, .f e k rows n (spl cl off av.cells)⟩⟩ d (.tu []))) (hx : aev s x = .ep b u k n off := by exact rfl) (hs : s.b[b]? = some ⟨u, .f e k rows n cl⟩ := by exact rfl) (hy : aev s y = av := by exact rfl) (hkn : av.known = true := by exact rfl) (hT : tt[T]? = some ti := by exact rfl) (hn : av.cells.length = ti.size := by exact rfl) (hl : Nat.ble (off + ti.size) cl.length = true := by exact rfl) : AP Try.prog X ops Q (⟨d, .store T x y, ty, pos, aft, none⟩ :: rest) s := ap_storeF rfl rfl hx hs hy hkn hT hn hl KK
/-- a slice out of owned things -/
theorem AP.BO {parts : Array (Nat × Operand)} {z : List ZC} {fl fl' : List AV} {b' : List Sl} {q : List (List AV)} (KK : AP Try.prog X ops Q rest (AS.put ⟨s.t, (newS b' (.r e k q)).2⟩ d (.hd (newS b' (.r e k q)).1.1 (newS b' (.r e k q)).1.2))) (hT : tt[T]? = some i := by exact rfl) (hk : i.kd = .sl e := by exact rfl) (he : tt[e]? = some ie := by exact rfl) (hz : ie.zero = some z := by exact rfl) (hsz : ie.size = k := by exact rfl)
    (h1 : Nat.ble 1 k = true := by exact rfl) (h2 : Nat.ble (n * k) 1000000 = true := by exact rfl) (h3 : parts.toList.all (fun p => (aev s p.2).known && ((aev s p.2).cells.length == k) && Nat.ble (p.1 * k + k) (n * k)) = true := by exact rfl) (hfl : bldA s k parts.toList (zrow z n) = fl := by exact rfl) (hcl : clsO 60 s.b fl = some (fl', b') := by exact rfl) (hq : chunks k n fl' = q := by exact rfl) : AP Try.prog X ops Q (⟨d, .buildSlice T n parts, ty, pos, aft, none⟩ :: rest) s :=
  ap_buildSlice rfl rfl hT hk he hz hsz h1 h2 h3 hfl (clsO_of hcl) hq KK
end
/-! in drawn regions -/
section
variable {s : AS} {ops : Array Oper} {all : List Oper} {K : AS → Prop} {acc : List Fp} {l : List Oper} {av : AV} {op : Op} {ty : Nat} {pos : String} {aft : Array Edge} {g : Option (Nat × Bool)} {d : Nat} {T : List Nat} {F : List Nat} {b2 : List Sl} {r : Bool}
theorem DW.RM (hk : DW Try.prog ops all K (⟨T, some d, F, false⟩ :: acc) l ⟨s.t.set d av, s.b⟩) (hg : gdS ops s g = some r := by exact rfl) (hT : opTs ops ⟨some d, op, ty, pos, aft, g⟩ = T := by (simp only [ft, nm, Nat.reduceAdd, Nat.reduceBEq, List.getElem?_cons_zero, List.getElem?_cons_succ]; exact rfl)) (hF : ftF 0 s op = F := by (simp only [ft, nm, Nat.reduceAdd, Nat.reduceBEq, List.getElem?_cons_zero, List.getElem?_cons_succ]; exact rfl)) (h : ∀ X V, AP Try.prog X ops (fun e s' => e = .normal ∧ s' = ⟨(msT T 0 s.t).set d av, msB F V 0 s.b⟩) [⟨some d, op, ty, pos, aft, g⟩] ⟨msT T 0 s.t, msB F V 0 s.b⟩ := by (intro X V; simp only [ft, nm, Nat.reduceAdd, Nat.reduceBEq]; (try (refine AP.Y ?_; dsimp only)); (first | refine AP.LK ?_ | refine AP.LN ?_ | refine AP.LK2 ?_ | refine AP.LN2 ?_ | refine AP.FI ?_ | refine AP.FL ?_ | refine AP.F1 ?_ | refine AP.FN ?_ | refine AP.MZ ?_ | refine AP.MZ0 ?_); (try simp only [nx, Nat.reduceAdd, Nat.reduceSub, BEq.rfl]); refine AP.nil ?_; first | exact ⟨trivial, rfl⟩ | exact ⟨rfl, rfl⟩)) (hy : nyF F 0 s.b = true := by exact rfl) :
    DW Try.prog ops all K acc (⟨some d, op, ty, pos, aft, g⟩ :: l) s := DW.rd 0 hT hF h hk hy
theorem DW.WM (hk : DW Try.prog ops all K (⟨T, some d, F, true⟩ :: acc) l ⟨s.t.set d av, b2⟩) (hg : gdS ops s g = some r := by exact rfl) (hT : opTs ops ⟨some d, op, ty, pos, aft, g⟩ = T := by (simp only [ft, nm, Nat.reduceAdd, Nat.reduceBEq, List.getElem?_cons_zero, List.getElem?_cons_succ]; exact rfl)) (hF : ftF 1 s op = F := by (simp only [ft, nm, Nat.reduceAdd, Nat.reduceBEq, List.getElem?_cons_zero, List.getElem?_cons_succ]; exact rfl)) (h : ∀ X V, AP Try.prog X ops (fun e s' => e = .normal ∧ s'.t = (msT T 0 s.t).set d av ∧ Mg F V 0 s.b s'.b b2) [⟨some d, op, ty, pos, aft, g⟩] ⟨msT T 0 s.t, msB F V 0 s.b⟩ := by (intro X V; simp only [ft, nm, Nat.reduceAdd, Nat.reduceBEq]; (try (refine AP.Y ?_; dsimp only)); (first | refine AP.MM ?_ | refine AP.MD ?_ | refine AP.BO ?_); (try simp only [nx, Nat.reduceAdd, Nat.reduceSub, BEq.rfl]); refine AP.nil ?_; (first | refine ⟨trivial, rfl, ?_⟩ | refine ⟨rfl, rfl, ?_⟩); (repeat' (first | exact Mg.nil | apply Mg.keep rfl | apply Mg.take rfl)); all_goals fail))
    (hb : (∃ V : Nat → Nat, ∃ b1, Mg F V 0 s.b b1 b2) := by (refine Exists.intro (fun _ => 0) ?_; apply Exists.intro; (repeat' (first | exact Mg.nil | apply Mg.keep rfl | apply Mg.take rfl)); all_goals fail)) (hy : nyF F 0 s.b = true := by exact rfl) (hy2 : nyF F 0 b2 = true := by exact rfl) : DW Try.prog ops all K acc (⟨some d, op, ty, pos, aft, g⟩ :: l) s := DW.st 1 hT hF h hb hk hy hy2
theorem DW.WM' (hk : DW Try.prog ops all K (⟨T, none, F, true⟩ :: acc) l ⟨s.t, b2⟩) (hg : gdS ops s g = some r := by exact rfl) (hT : opTs ops ⟨none, op, ty, pos, aft, g⟩ = T := by (simp only [ft, nm, Nat.reduceAdd, Nat.reduceBEq, List.getElem?_cons_zero, List.getElem?_cons_succ]; exact rfl)) (hF : ftF 1 s op = F := by (simp only [ft, nm, Nat.reduceAdd, Nat.reduceBEq, List.getElem?_cons_zero, List.getElem?_cons_succ]; exact rfl)) (h : ∀ X V, AP Try.prog X ops (fun e s' => e = .normal ∧ s'.t = msT T 0 s.t ∧ Mg F V 0 s.b s'.b b2) [⟨none, op, ty, pos, aft, g⟩] ⟨msT T 0 s.t, msB F V 0 s.b⟩ := by (intro X V; simp only [ft, nm, Nat.reduceAdd, Nat.reduceBEq]; (try (refine AP.Y ?_; dsimp only)); (first | refine AP.MU ?_ | refine AP.MN ?_ | refine AP.MS ?_ | refine AP.MD ?_ | refine AP.FT ?_); (try simp only [nx, Nat.reduceAdd, Nat.reduceSub, BEq.rfl]); refine AP.nil ?_; (first | refine ⟨trivial, rfl, ?_⟩ | refine ⟨rfl, rfl, ?_⟩); (repeat' (first | exact Mg.nil | apply Mg.keep rfl | apply Mg.take rfl)); all_goals fail))
    (hb : (∃ V : Nat → Nat, ∃ b1, Mg F V 0 s.b b1 b2) := by (refine Exists.intro (fun _ => 0) ?_; apply Exists.intro; (repeat' (first | exact Mg.nil | apply Mg.keep rfl | apply Mg.take rfl)); all_goals fail)) (hy : nyF F 0 s.b = true := by exact rfl) (hy2 : nyF F 0 b2 = true := by exact rfl) : DW Try.prog ops all K acc (⟨none, op, ty, pos, aft, g⟩ :: l) s := DW.stN 1 hT hF h hb hk hy hy2
end
end Go.Proofs.Ytkkabbdmfepbiaa

namespace Go.Proofs.Ytkkabbdmfepbiaa
set_option linter.unusedVariables false
set_option linter.unusedSimpArgs false
open Go.RowKit
set_option maxRecDepth 100000
section
variable {v : Value} {k n b u o i : Nat} {r : List (List AV)} {α : Type} {l : List α}
theorem cr_sc : cRow (.sc v) = [.sc v] := rfl
theorem cr_sl : cRow (.sl none k r) = [.sl none k r] := rfl
theorem cr_bp : cRow (.bp b u o) = [.de] := rfl
theorem cr_hd : cRow (.hd b u) = [.de] := rfl
theorem ow_sc : oRow n (.sc v) = none := rfl
theorem ow_sl : oRow n (.sl none k r) = none := rfl
theorem ow_bp : oRow n (.bp b u o) = some (n, [.bp b u o]) := rfl
theorem ow_hd : oRow n (.hd b u) = some (n, [.hd b u]) := rfl
theorem cp_sc : (AV.sc v).cp = .sc v := rfl
theorem cp_sl : (AV.sl none k r).cp = .sl none k r := rfl
theorem cp_bp : (AV.bp b u o).cp = .bp b u o := rfl
theorem dk_some : delK l (some n) = l.eraseIdx n := rfl
theorem dk_none : delK l none = l := rfl
end
theorem mx : type_of% (And.intro @cr_sc (And.intro @cr_sl (And.intro @cr_bp (And.intro @cr_hd (And.intro @ow_sc (And.intro @ow_sl (And.intro @ow_bp (And.intro @ow_hd (And.intro @cp_sc (And.intro @cp_sl (And.intro @cp_bp (And.intro @dk_some @dk_none)))))))))))) := And.intro @cr_sc (And.intro @cr_sl (And.intro @cr_bp (And.intro @cr_hd (And.intro @ow_sc (And.intro @ow_sl (And.intro @ow_bp (And.intro @ow_hd (And.intro @cp_sc (And.intro @cp_sl (And.intro @cp_bp (And.intro @dk_some @dk_none)))))))))))
theorem AP.ST {G G' : Prop} (K : G') (h : G' → G := by (intro k; first | exact AP.S k | exact AP.E k | exact AP.T k | exact AP.F k | exact AP.F0 k | exact AP.A k | exact AP.AB 0 k | exact AP.AB 1 k | exact AP.AL k | exact AP.LB k | exact AP.TB k | exact AP.IX k | exact AP.SF k | exact AP.SV k | exact AP.CV k | exact AP.CO k | exact AP.FV k | exact AP.LK k | exact AP.LN k | exact AP.LK2 k | exact AP.LN2 k | exact AP.MM k | exact AP.MU k | exact AP.MN k | exact AP.MS k | exact AP.MD k | exact AP.MZ k | exact AP.MZ0 k | exact AP.FI k | exact AP.FL k | exact AP.F1 k | exact AP.FN k | exact AP.FT k | fail)) : G := h K
theorem DW.ST {G G' : Prop} (K : G') (h : G' → G := by (intro k; first | exact DW.R k | exact DW.R' k | exact DW.W k | exact DW.W' k | exact DW.RA k | exact DW.A 0 k | exact DW.A 1 k | exact DW.A 2 k | exact DW.A' 0 k | exact DW.A' 2 k | exact DW.RX k | exact DW.WX k | exact DW.WX' k | exact DW.RM k | exact DW.WM k | exact DW.WM' k | fail)) : G := h K
/-- a contract over what may be read serves for what is owned: it is given up -/
theorem AC.own {P : Program} {fn : Nat} {args : List AV} {bs : List Bx} {Q : AV → List Bx → Prop} (h : AC P fn (roC args) bs Q) : AC P fn args bs Q := by
  refine ⟨h.1, fun w φ κ R vs gs Sa Sb hr hrx hφ hφn hκ hone hown hR => ?_⟩
  have h2 := h.2 w φ κ (fun b => R b ∨ Sa b ≠ 0) vs gs Ct.z Sb (RC.ro_ hr) (RXs.mono (fun _ h => .inl h) hrx) hφ hφn hκ (fun x => by have := hone x; simp only [Ct.z]; omega) (fun x hx => hown x (by simp only [Ct.z] at hx; omega)) (fun x hx => by
    rcases hx with hx | hx
    · have := hR x hx; simp only [Ct.z]; exact ⟨this.1, by omega⟩
    · have h1 := hone x; have := hown x (by omega); simp only [Ct.z]; exact ⟨this, by omega⟩)
  refine h2.mono ?_
  rintro e w' ⟨v, r, bs', gs', Sr, Sb', φ', F, h1, h3, h4, h5, h6, h7, h8, h9, h10, h11⟩
  have hup : ∀ x, ((R x ∨ Sa x ≠ 0) ∨ F x) → (R x ∨ (Sa x ≠ 0 ∨ F x)) := fun x hx => by
    rcases hx with (hx | hx) | hx
    · exact .inl hx
    · exact .inr (.inl hx)
    · exact .inr (.inr hx)
  refine ⟨v, r, bs', gs', Sr, Sb', φ', fun x => Sa x ≠ 0 ∨ F x, h1, h3, RV.hist (fun _ _ _ h => h) (fun _ _ _ h => h) hup h4, RXs.mono hup h5, h6, h7, h8, fun x hx => ?_, fun x hx => ?_, ⟨h11.os, h11.tape, h11.output, h11.size, fun b hb hS => h11.block b hb (by simp only [Ct.z]; omega)⟩⟩
  · rcases hx with hx | hx | hx
    · have := h9 x (.inl hx); simp only [Ct.z] at this; exact ⟨this.1, by omega⟩
    · have h12 := hown x (by omega); have h13 := h11.size; exact ⟨by omega, .inl (by omega)⟩
    · have := h9 x (.inr hx); simp only [Ct.z] at this; exact ⟨this.1, by omega⟩
  · rcases hx with hx | hx
    · have h12 := hown x (by omega)
      have h13 := hone x
      by_cases h14 : Sr x + Sb' x = 0
      · exact h14
      · have := h9 x (.inl h14); simp only [Ct.z] at this; omega
    · exact h10 x hx
end Go.Proofs.Ytkkabbdmfepbiaa

namespace Go.Proofs.Ytkkabbdmfepbiaa
set_option linter.unusedVariables false
set_option linter.unusedSimpArgs false
open Go.RowKit
set_option maxRecDepth 100000
section
variable {X : Cx} {s s' : AS} {o : Oper} {Q : Exit → AS → Prop} {ops : Array Oper} {rest : List Oper}
theorem pq_fneqC {op : BinOp} {T T' : TypeId} {x y : Operand} {fn : Nat} {cap : List AV} {r : Bool} (ho : o.op = .binOp op T x y T') (hx : aev s x = .fn fn cap) (hy : aev s y = .sc .nilFunc) (hr : nilB op false = some r) (hT : (match Try.prog.underlying T with | some (.func _ _ _) => true | _ => false) = true) : Pq Try.prog X s o (.sc (.bool r)) := .of_run fun X φ κ f a w h => by
  have hv := h.evs hx
  obtain ⟨cvs, hcv⟩ : ∃ cvs : List Value, a.eval x = .func (.func fn) #[] cvs.toArray := by
    generalize a.eval x = v at hv
    cases hv with | fn h => exact ⟨_, rfl⟩
  exact ⟨_, .sc rfl, fun w' _ => run_fneq hT ho hcv (.inr ⟨⟨_, _, _, rfl⟩, rfl⟩) (h.evc hy) hr w'⟩
theorem AP.FC {op : BinOp} {T T' : TypeId} {x y : Operand} {fn : Nat} {cap : List AV} {r : Bool} (K : AP Try.prog X ops Q rest (s.put o.dst (.sc (.bool r)))) (hg : o.guard = none := by exact rfl) (ho : o.op = .binOp op T x y T' := by exact rfl) (hx : aev s x = .fn fn cap := by exact rfl) (hy : aev s y = .sc .nilFunc := by exact rfl) (hr : nilB op false = some r := by exact rfl)
    (hT : (match Try.prog.underlying T with | some (.func _ _ _) => true | _ => false) = true := by kernel_rfl) : AP Try.prog X ops Q (o :: rest) s := AP.pure hg (pq_fneqC ho hx hy hr hT) K
end
theorem gh_shutC {s : AS} {j u k n : Nat} {e : TypeId} {rows : List (List AV)} {c c' : List AV} {b1 : List Sl} (hj : s.b[j]? = some ⟨u, .f e k rows n c⟩) (hcl : ClsC (s.b.set j ⟨u, .o⟩) c c' b1) (hk : b1[j]? = some ⟨u, .o⟩) : Gh s ⟨s.t, b1.set j ⟨u, .r e k (rows.set n c')⟩⟩ := by
  rintro X a w ⟨X', φ, κ, f, hX, h⟩
  obtain ⟨X1, f', hX1, h1⟩ := h.shutR hj hcl hk
  exact ⟨X1, φ, κ, f', hX.trans hX1, h1⟩
end Go.Proofs.Ytkkabbdmfepbiaa

namespace Go.Proofs.Ytkkabbdmfepbiaa
set_option linter.unusedVariables false
set_option linter.unusedSimpArgs false
set_option maxHeartbeats 8000000
open Go.RowKit
set_option maxRecDepth 100000
def lNext (x : Life) (r : Record) : Life :=
  if r.kind = 1 then lBook x r else if r.kind = 2 then lEntry x r else if r.kind = 3 then lWhole x else if r.kind = 4 then lBoot x else x
theorem next1_ac (x : Life) (bk : Book) (dr : Bool) (en : Entry) (ha : bk.cfg.members.length ≤ 100000000) (hb : en.body.length ≤ 100000000) (hx : x.log.length ≤ 100000000) :
    AC Try.prog 12 [lO x, .ag (eR ⟨1, bk, dr, en⟩)] [] (fun v bs' => v = lO (lBook x ⟨1, bk, dr, en⟩) ∧ bs' = []) := by
  have h1 := doings_ac
  have h2 := book_ac x ⟨1, bk, dr, en⟩ ha
  refine AC.N Try.func12 Try.ntmps12 ?_
  intro X hρ hmks
  simp only [nx, Nat.reduceAdd, Nat.reduceSub, BEq.rfl]
  refine CP.gh gh_slot ?_; simp only [nx, Nat.reduceAdd, Nat.reduceSub, BEq.rfl]
  refine CP.gh gh_slot ?_; simp only [nx, Nat.reduceAdd, Nat.reduceSub, BEq.rfl]
  repeat' (first | ((first | ((with_reducible apply AP.k_any); first | refine AP.ST ?_ | (refine AP.Y ?_; dsimp only) | refine AP.G (fun hg => ?_) (fun hg => ?_) | (refine AP.V (fun c hnil => ?_); simp only [nz]) | refine AP.FC ?_ | refine AP.PF ?_) | ((with_reducible apply DW.k_any); first | refine DW.ST ?_ | ((fail_if_success refine DW.known rfl ?_); refine DW.G (fun hg => ?_) (fun hg => ?_))) | ((with_reducible apply DW.k_any); first | refine DW.R ?_ | refine DW.R' ?_ | refine DW.W ?_ | refine DW.W' ?_ | (refine DW.known rfl ?_; (with_reducible first | apply DW.sx 2 | apply DW.sxN 2); (iterate 2 (focus (simp only [ft, nm, Nat.reduceAdd, Nat.reduceBEq, List.getElem?_cons_zero, List.getElem?_cons_succ]; exact rfl))); (focus (intro X V; simp only [ft, nm, Nat.reduceAdd, Nat.reduceBEq]; (try (refine AP.Y ?_; dsimp only)); (first | refine AP.FC ?_ | fail); (try simp only [nx, Nat.reduceAdd, Nat.reduceSub, BEq.rfl]); refine AP.nil ?_; (first | refine ⟨trivial, rfl, ?_⟩ | refine ⟨rfl, rfl, ?_⟩); (repeat' (first | exact Mg.nil | apply Mg.keep rfl | apply Mg.take rfl)); done)); (focus (refine Exists.intro (fun _ => 0) ?_; apply Exists.intro; (repeat' (first | exact Mg.nil | apply Mg.keep rfl | apply Mg.take rfl)); done)); (iterate 2 (focus (exact rfl)))) | ((fail_if_success refine DW.known rfl ?_); refine DW.G (fun hg => ?_) (fun hg => ?_)))) <;> (try simp only [ nx, mx, rn, fq, Nat.mul_one, Bool.and_true, Bool.and_false, Nat.reduceBEq, Nat.reduceAdd, Nat.reduceSub, BEq.rfl])) | ((with_reducible apply AP.k_nil); first | (refine AP.nil (hQ' _ ?_); clear hQ' Q') | refine AP.nil ?_) | ((with_reducible apply CP.k_drw); refine cp_drwX fun Q' hQ' => ?_) | ((with_reducible apply CP.k_drw1); refine cp_drawX ?_) | ((with_reducible apply DW.k_nil); refine DW.nl ?_; first | (refine hQ' _ ?_; clear hQ' Q') | skip) | ((with_reducible apply CP.k_reg); refine cp_regG fun Q' hQ' => ?_) | refine CP.W ?_ | refine cp_cond rfl (fun hc => ?_) (fun hc => ?_) | (simp only [List.append_eq, List.cons_append, List.nil_append]))
  (exact RetQ.A [] (by exact ⟨rfl, rfl⟩))
theorem next2_ac (x : Life) (bk : Book) (dr : Bool) (en : Entry) (ha : bk.cfg.members.length ≤ 100000000) (hb : en.body.length ≤ 100000000) (hx : x.log.length ≤ 100000000) :
    AC Try.prog 12 [lO x, .ag (eR ⟨2, bk, dr, en⟩)] [] (fun v bs' => v = lO (lEntry x ⟨2, bk, dr, en⟩) ∧ bs' = []) := by
  have h1 := doings_ac
  have h2 := entry_ac x ⟨2, bk, dr, en⟩ hb hx
  refine AC.N Try.func12 Try.ntmps12 ?_
  intro X hρ hmks
  simp only [nx, Nat.reduceAdd, Nat.reduceSub, BEq.rfl]
  refine CP.gh gh_slot ?_; simp only [nx, Nat.reduceAdd, Nat.reduceSub, BEq.rfl]
  refine CP.gh gh_slot ?_; simp only [nx, Nat.reduceAdd, Nat.reduceSub, BEq.rfl]
  repeat' (first | ((first | ((with_reducible apply AP.k_any); first | refine AP.ST ?_ | (refine AP.Y ?_; dsimp only) | refine AP.G (fun hg => ?_) (fun hg => ?_) | (refine AP.V (fun c hnil => ?_); simp only [nz]) | refine AP.FC ?_ | refine AP.PF ?_) | ((with_reducible apply DW.k_any); first | refine DW.ST ?_ | ((fail_if_success refine DW.known rfl ?_); refine DW.G (fun hg => ?_) (fun hg => ?_))) | ((with_reducible apply DW.k_any); first | refine DW.R ?_ | refine DW.R' ?_ | refine DW.W ?_ | refine DW.W' ?_ | (refine DW.known rfl ?_; (with_reducible first | apply DW.sx 2 | apply DW.sxN 2); (iterate 2 (focus (simp only [ft, nm, Nat.reduceAdd, Nat.reduceBEq, List.getElem?_cons_zero, List.getElem?_cons_succ]; exact rfl))); (focus (intro X V; simp only [ft, nm, Nat.reduceAdd, Nat.reduceBEq]; (try (refine AP.Y ?_; dsimp only)); (first | refine AP.FC ?_ | fail); (try simp only [nx, Nat.reduceAdd, Nat.reduceSub, BEq.rfl]); refine AP.nil ?_; (first | refine ⟨trivial, rfl, ?_⟩ | refine ⟨rfl, rfl, ?_⟩); (repeat' (first | exact Mg.nil | apply Mg.keep rfl | apply Mg.take rfl)); done)); (focus (refine Exists.intro (fun _ => 0) ?_; apply Exists.intro; (repeat' (first | exact Mg.nil | apply Mg.keep rfl | apply Mg.take rfl)); done)); (iterate 2 (focus (exact rfl)))) | ((fail_if_success refine DW.known rfl ?_); refine DW.G (fun hg => ?_) (fun hg => ?_)))) <;> (try simp only [ nx, mx, rn, fq, Nat.mul_one, Bool.and_true, Bool.and_false, Nat.reduceBEq, Nat.reduceAdd, Nat.reduceSub, BEq.rfl])) | ((with_reducible apply AP.k_nil); first | (refine AP.nil (hQ' _ ?_); clear hQ' Q') | refine AP.nil ?_) | ((with_reducible apply CP.k_drw); refine cp_drwX fun Q' hQ' => ?_) | ((with_reducible apply CP.k_drw1); refine cp_drawX ?_) | ((with_reducible apply DW.k_nil); refine DW.nl ?_; first | (refine hQ' _ ?_; clear hQ' Q') | skip) | ((with_reducible apply CP.k_reg); refine cp_regG fun Q' hQ' => ?_) | refine CP.W ?_ | refine cp_cond rfl (fun hc => ?_) (fun hc => ?_) | (simp only [List.append_eq, List.cons_append, List.nil_append]))
  (exact RetQ.A [] (by exact ⟨rfl, rfl⟩))
theorem next3_ac (x : Life) (bk : Book) (dr : Bool) (en : Entry) (ha : bk.cfg.members.length ≤ 100000000) (hb : en.body.length ≤ 100000000) (hx : x.log.length ≤ 100000000) :
    AC Try.prog 12 [lO x, .ag (eR ⟨3, bk, dr, en⟩)] [] (fun v bs' => v = lO (lWhole x) ∧ bs' = []) := by
  have h1 := doings_ac
  have h2 := whole_ac x ⟨3, bk, dr, en⟩
  refine AC.N Try.func12 Try.ntmps12 ?_
  intro X hρ hmks
  simp only [nx, Nat.reduceAdd, Nat.reduceSub, BEq.rfl]
  refine CP.gh gh_slot ?_; simp only [nx, Nat.reduceAdd, Nat.reduceSub, BEq.rfl]
  refine CP.gh gh_slot ?_; simp only [nx, Nat.reduceAdd, Nat.reduceSub, BEq.rfl]
  repeat' (first | ((first | ((with_reducible apply AP.k_any); first | refine AP.ST ?_ | (refine AP.Y ?_; dsimp only) | refine AP.G (fun hg => ?_) (fun hg => ?_) | (refine AP.V (fun c hnil => ?_); simp only [nz]) | refine AP.FC ?_ | refine AP.PF ?_) | ((with_reducible apply DW.k_any); first | refine DW.ST ?_ | ((fail_if_success refine DW.known rfl ?_); refine DW.G (fun hg => ?_) (fun hg => ?_))) | ((with_reducible apply DW.k_any); first | refine DW.R ?_ | refine DW.R' ?_ | refine DW.W ?_ | refine DW.W' ?_ | (refine DW.known rfl ?_; (with_reducible first | apply DW.sx 2 | apply DW.sxN 2); (iterate 2 (focus (simp only [ft, nm, Nat.reduceAdd, Nat.reduceBEq, List.getElem?_cons_zero, List.getElem?_cons_succ]; exact rfl))); (focus (intro X V; simp only [ft, nm, Nat.reduceAdd, Nat.reduceBEq]; (try (refine AP.Y ?_; dsimp only)); (first | refine AP.FC ?_ | fail); (try simp only [nx, Nat.reduceAdd, Nat.reduceSub, BEq.rfl]); refine AP.nil ?_; (first | refine ⟨trivial, rfl, ?_⟩ | refine ⟨rfl, rfl, ?_⟩); (repeat' (first | exact Mg.nil | apply Mg.keep rfl | apply Mg.take rfl)); done)); (focus (refine Exists.intro (fun _ => 0) ?_; apply Exists.intro; (repeat' (first | exact Mg.nil | apply Mg.keep rfl | apply Mg.take rfl)); done)); (iterate 2 (focus (exact rfl)))) | ((fail_if_success refine DW.known rfl ?_); refine DW.G (fun hg => ?_) (fun hg => ?_)))) <;> (try simp only [ nx, mx, rn, fq, Nat.mul_one, Bool.and_true, Bool.and_false, Nat.reduceBEq, Nat.reduceAdd, Nat.reduceSub, BEq.rfl])) | ((with_reducible apply AP.k_nil); first | (refine AP.nil (hQ' _ ?_); clear hQ' Q') | refine AP.nil ?_) | ((with_reducible apply CP.k_drw); refine cp_drwX fun Q' hQ' => ?_) | ((with_reducible apply CP.k_drw1); refine cp_drawX ?_) | ((with_reducible apply DW.k_nil); refine DW.nl ?_; first | (refine hQ' _ ?_; clear hQ' Q') | skip) | ((with_reducible apply CP.k_reg); refine cp_regG fun Q' hQ' => ?_) | refine CP.W ?_ | refine cp_cond rfl (fun hc => ?_) (fun hc => ?_) | (simp only [List.append_eq, List.cons_append, List.nil_append]))
  (exact RetQ.A [] (by exact ⟨rfl, rfl⟩))
theorem next4_ac (x : Life) (bk : Book) (dr : Bool) (en : Entry) (ha : bk.cfg.members.length ≤ 100000000) (hb : en.body.length ≤ 100000000) (hx : x.log.length ≤ 100000000) :
    AC Try.prog 12 [lO x, .ag (eR ⟨4, bk, dr, en⟩)] [] (fun v bs' => v = lO (lBoot x) ∧ bs' = []) := by
  have h1 := doings_ac
  have h2 := boot_ac x ⟨4, bk, dr, en⟩
  refine AC.N Try.func12 Try.ntmps12 ?_
  intro X hρ hmks
  simp only [nx, Nat.reduceAdd, Nat.reduceSub, BEq.rfl]
  refine CP.gh gh_slot ?_; simp only [nx, Nat.reduceAdd, Nat.reduceSub, BEq.rfl]
  refine CP.gh gh_slot ?_; simp only [nx, Nat.reduceAdd, Nat.reduceSub, BEq.rfl]
  repeat' (first | ((first | ((with_reducible apply AP.k_any); first | refine AP.ST ?_ | (refine AP.Y ?_; dsimp only) | refine AP.G (fun hg => ?_) (fun hg => ?_) | (refine AP.V (fun c hnil => ?_); simp only [nz]) | refine AP.FC ?_ | refine AP.PF ?_) | ((with_reducible apply DW.k_any); first | refine DW.ST ?_ | ((fail_if_success refine DW.known rfl ?_); refine DW.G (fun hg => ?_) (fun hg => ?_))) | ((with_reducible apply DW.k_any); first | refine DW.R ?_ | refine DW.R' ?_ | refine DW.W ?_ | refine DW.W' ?_ | (refine DW.known rfl ?_; (with_reducible first | apply DW.sx 2 | apply DW.sxN 2); (iterate 2 (focus (simp only [ft, nm, Nat.reduceAdd, Nat.reduceBEq, List.getElem?_cons_zero, List.getElem?_cons_succ]; exact rfl))); (focus (intro X V; simp only [ft, nm, Nat.reduceAdd, Nat.reduceBEq]; (try (refine AP.Y ?_; dsimp only)); (first | refine AP.FC ?_ | fail); (try simp only [nx, Nat.reduceAdd, Nat.reduceSub, BEq.rfl]); refine AP.nil ?_; (first | refine ⟨trivial, rfl, ?_⟩ | refine ⟨rfl, rfl, ?_⟩); (repeat' (first | exact Mg.nil | apply Mg.keep rfl | apply Mg.take rfl)); done)); (focus (refine Exists.intro (fun _ => 0) ?_; apply Exists.intro; (repeat' (first | exact Mg.nil | apply Mg.keep rfl | apply Mg.take rfl)); done)); (iterate 2 (focus (exact rfl)))) | ((fail_if_success refine DW.known rfl ?_); refine DW.G (fun hg => ?_) (fun hg => ?_)))) <;> (try simp only [ nx, mx, rn, fq, Nat.mul_one, Bool.and_true, Bool.and_false, Nat.reduceBEq, Nat.reduceAdd, Nat.reduceSub, BEq.rfl])) | ((with_reducible apply AP.k_nil); first | (refine AP.nil (hQ' _ ?_); clear hQ' Q') | refine AP.nil ?_) | ((with_reducible apply CP.k_drw); refine cp_drwX fun Q' hQ' => ?_) | ((with_reducible apply CP.k_drw1); refine cp_drawX ?_) | ((with_reducible apply DW.k_nil); refine DW.nl ?_; first | (refine hQ' _ ?_; clear hQ' Q') | skip) | ((with_reducible apply CP.k_reg); refine cp_regG fun Q' hQ' => ?_) | refine CP.W ?_ | refine cp_cond rfl (fun hc => ?_) (fun hc => ?_) | (simp only [List.append_eq, List.cons_append, List.nil_append]))
  (exact RetQ.A [] (by exact ⟨rfl, rfl⟩))
theorem next0_ac (x : Life) (bk : Book) (dr : Bool) (en : Entry) :
    AC Try.prog 12 [lO x, .ag (eR ⟨0, bk, dr, en⟩)] [] (fun v bs' => v = lO x ∧ bs' = []) := by
  refine AC.N Try.func12 Try.ntmps12 ?_
  intro X hρ hmks
  simp only [nx, Nat.reduceAdd, Nat.reduceSub, BEq.rfl]
  repeat' (first | ((first | ((with_reducible apply AP.k_any); first | refine AP.S ?_ | refine AP.E ?_ | (refine AP.Y ?_; dsimp only) | refine AP.G (fun hg => ?_) (fun hg => ?_) | refine AP.T ?_ | (refine AP.V (fun c hnil => ?_); simp only [nz]) | refine AP.F ?_ | refine AP.F0 ?_) | ((with_reducible apply AP.k_any); refine AP.C (doings_ac) ?_)) <;> (try simp only [nx, Nat.reduceAdd, Nat.reduceSub, BEq.rfl])) | ((with_reducible apply AP.k_nil); first | (refine AP.nil (hQ' _ ?_); clear hQ' Q') | refine AP.nil ?_) | ((with_reducible apply CP.k_reg); refine cp_regG fun Q' hQ' => ?_) | refine CP.W ?_ | refine cp_cond rfl (fun hc => ?_) (fun hc => ?_) | (simp only [List.append_eq, List.cons_append, List.nil_append]))
  all_goals (refine RetQ.B [] ?_; (try dsimp only [resV, List.getD_cons_succ, List.getD_cons_zero]); (exact ⟨rfl, rfl⟩))
theorem next5_ac (x : Life) (r : Record) (h5 : 5 ≤ r.kind.toNat) :
    AC Try.prog 12 [lO x, .ag (eR r)] [] (fun v bs' => v = lO x ∧ bs' = []) := by
  have h6 : r.kind.toNat < 256 := r.kind.toNat_lt
  have hw : IntKind.i64.wrap (r.kind.toNat : Int) = (r.kind.toNat : Int) := wrap_i64 (by omega) (by omega)
  refine AC.N Try.func12 Try.ntmps12 ?_
  intro X hρ hmks
  simp only [nx, Nat.reduceAdd, Nat.reduceSub, BEq.rfl]
  repeat' (first | ((first | ((with_reducible apply AP.k_any); first | refine AP.S ?_ | refine AP.E ?_ | (refine AP.Y ?_; dsimp only) | refine AP.G (fun hg => ?_) (fun hg => ?_) | refine AP.T ?_ | (refine AP.V (fun c hnil => ?_); simp only [nz]) | refine AP.F ?_ | refine AP.F0 ?_) | ((with_reducible apply AP.k_any); refine AP.C (doings_ac) ?_)) <;> (try simp only [nx, Nat.reduceAdd, Nat.reduceSub, BEq.rfl])) | ((with_reducible apply AP.k_nil); first | (refine AP.nil (hQ' _ ?_); clear hQ' Q') | refine AP.nil ?_) | ((with_reducible apply CP.k_reg); refine cp_regG fun Q' hQ' => ?_) | refine CP.W ?_ | refine cp_cond rfl (fun hc => ?_) (fun hc => ?_) | (simp only [List.append_eq, List.cons_append, List.nil_append]))
  · exfalso
    rw [hw] at hg
    simp at hg
    omega
  · (refine RetQ.B [] ?_; (try dsimp only [resV, List.getD_cons_succ, List.getD_cons_zero]); (exact ⟨rfl, rfl⟩))
theorem next_ac (x : Life) (r : Record) (ha : r.book.cfg.members.length ≤ 100000000) (hb : r.entry.body.length ≤ 100000000) (hx : x.log.length ≤ 100000000) :
    AC Try.prog 12 [lO x, .ag (eR r)] [] (fun v bs' => v = lO (lNext x r) ∧ bs' = []) := by
  by_cases h5 : 5 ≤ r.kind.toNat
  · have h1 : r.kind ≠ 1 := fun h => by rw [h] at h5; simp at h5
    have h2 : r.kind ≠ 2 := fun h => by rw [h] at h5; simp at h5
    have h3 : r.kind ≠ 3 := fun h => by rw [h] at h5; simp at h5
    have h4 : r.kind ≠ 4 := fun h => by rw [h] at h5; simp at h5
    have e : lNext x r = x := by simp [lNext, h1, h2, h3, h4]
    rw [e]; exact next5_ac x r h5
  · obtain ⟨kind, bk, dr, en⟩ := r
    have hk : kind = 0 ∨ kind = 1 ∨ kind = 2 ∨ kind = 3 ∨ kind = 4 := by
      have h6 : kind.toNat = 0 ∨ kind.toNat = 1 ∨ kind.toNat = 2 ∨ kind.toNat = 3 ∨ kind.toNat = 4 := by simp at h5; omega
      rcases h6 with h | h | h | h | h
      · exact .inl (UInt8.toNat_inj.1 h)
      · exact .inr (.inl (UInt8.toNat_inj.1 h))
      · exact .inr (.inr (.inl (UInt8.toNat_inj.1 h)))
      · exact .inr (.inr (.inr (.inl (UInt8.toNat_inj.1 h))))
      · exact .inr (.inr (.inr (.inr (UInt8.toNat_inj.1 h))))
    rcases hk with rfl | rfl | rfl | rfl | rfl
    · exact next0_ac x bk dr en
    · exact next1_ac x bk dr en ha hb hx
    · exact next2_ac x bk dr en ha hb hx
    · exact next3_ac x bk dr en ha hb hx
    · exact next4_ac x bk dr en ha hb hx
end Go.Proofs.Ytkkabbdmfepbiaa

namespace Go.Proofs.Ytkkabbdmfepbiaa
set_option linter.unusedVariables false
set_option linter.unusedSimpArgs false
set_option maxHeartbeats 8000000
open Go.RowKit
set_option maxRecDepth 100000
def lZero : Life := ⟨⟨⟨0, []⟩, 0, false, 0⟩, 0, []⟩
def lLives (l : List Record) : Life := l.foldl lNext lZero
abbrev rs (l : List Record) : AV := .sl none 12 (l.map eR)
theorem lNext_len (x : Life) (r : Record) : (lNext x r).log.length ≤ x.log.length + 1 := by
  unfold lNext
  split
  · simp only [lBook]; split <;> simp
  · split
    · unfold lEntry; split <;> simp
    · split
      · simp [lWhole]
      · split <;> simp [lBoot]
theorem lFold_len : ∀ (l : List Record) (x : Life), (l.foldl lNext x).log.length ≤ x.log.length + l.length
  | [], x => by simp
  | r :: l, x => by
    have h1 := lFold_len l (lNext x r)
    have h2 := lNext_len x r
    simp only [List.foldl_cons, List.length_cons]; omega
theorem lLives_len (l : List Record) : (lLives l).log.length ≤ l.length := by
  have := lFold_len l lZero
  simpa [lLives, lZero] using this
theorem lives_ac (l : List Record) (hl : l.length ≤ 100000000) (hb : ∀ r ∈ l, r.book.cfg.members.length ≤ 100000000 ∧ r.entry.body.length ≤ 100000000) :
    AC Try.prog 7 [rs l] [] (fun v bs' => v = lO (lLives l) ∧ bs' = []) := by
  refine AC.N Try.func7 Try.ntmps7 ?_
  intro X hρ hmks
  simp only [nx, Nat.reduceAdd, Nat.reduceSub, BEq.rfl]
  repeat' (first | ((first | ((with_reducible apply AP.k_any); first | refine AP.S ?_ | refine AP.E ?_ | refine AP.T ?_)) <;> (try simp only [nx, Nat.reduceAdd, Nat.reduceSub, BEq.rfl])) | ((with_reducible apply AP.k_nil); first | (refine AP.nil (hQ' _ ?_); clear hQ' Q') | refine AP.nil ?_) | ((with_reducible apply CP.k_reg); refine cp_regG fun Q' hQ' => ?_) | refine CP.W ?_ | refine cp_cond rfl (fun hc => ?_) (fun hc => ?_) | (simp only [List.append_eq, List.cons_append, List.nil_append]))
  refine CP.gh (gh_nilc (j := 1) (off := 1) (e := tM) (k := 3) rfl rfl) ?_
  simp only [nx, Nat.reduceAdd, Nat.reduceSub, BEq.rfl]
  refine CP.gh (gh_nilc (j := 1) (off := 6) (e := tE) (k := 5) rfl rfl) ?_
  simp only [nx, Nat.reduceAdd, Nat.reduceSub, BEq.rfl]
  refine CP.gh gh_slot ?_
  simp only [nx, Nat.reduceAdd, Nat.reduceSub, BEq.rfl]
  refine cp_loopW (fun n s => ∃ (k : Nat) (x : Life) (u1 u2 u3 : Nat), k ≤ l.length ∧ n = l.length - k ∧ x = lLives (l.take k) ∧ s = ⟨tm 17 [(2, .bp 0 1 0), (3, .bp 1 1 0), (6, rs l), (7, I l.length), (8, I k)], [⟨1, .c 37 [I 0, .sc (.slice none 0 0), I 0, B false, I 0, I 0, .sc (.slice none 0 0)]⟩, ⟨1, .c 37 [I x.book.cfg.epoch, .hd 2 u1, I x.book.since, B x.book.whole, I x.book.upto, I x.boot, .hd 3 u2]⟩, ⟨u1, .r tM 3 (x.book.cfg.members.map eM)⟩, ⟨u2, .r tE 5 (x.log.map (eE (some tU)))⟩, ⟨u3, .x⟩]⟩) l.length ⟨tm 17 [(2, .bp 0 1 0), (3, .bp 1 1 0), (6, rs l), (7, I l.length), (8, I (0 : Nat))], [⟨1, .c 37 [I 0, .sc (.slice none 0 0), I 0, B false, I 0, I 0, .sc (.slice none 0 0)]⟩, ⟨1, .c 37 [I lZero.book.cfg.epoch, .hd 2 1, I lZero.book.since, B lZero.book.whole, I lZero.book.upto, I lZero.boot, .hd 3 1]⟩, ⟨1, .r tM 3 (lZero.book.cfg.members.map eM)⟩, ⟨1, .r tE 5 (lZero.log.map (eE (some tU)))⟩, ⟨0, .x⟩]⟩ (by (try simp only [List.length_map]); simp only [tm, List.foldl_cons, List.foldl_nil, List.replicate_succ, List.replicate_zero, List.set_cons_succ, List.set_cons_zero, Nat.reduceAdd]; (refine ⟨?_, ?_⟩ <;> (try dsimp only) <;> (repeat' (first | exact Wk.nil | exact WkB.nil | apply Wk.same | apply Wk.de | apply Wk.nl | apply WkB.same | apply WkB.drop)))) ⟨0, lZero, 1, 1, 0, by omega, by omega, rfl, rfl⟩ ?_
  rintro n s ⟨k, x, u1, u2, u3, hk, rfl, hx, rfl⟩
  simp only [tm, List.foldl_cons, List.foldl_nil, List.replicate_succ, List.replicate_zero, List.set_cons_succ, List.set_cons_zero, Nat.reduceAdd]
  by_cases hlt : k < l.length
  · have hr : (l.map eR)[k]? = some (eR l[k]) := by simp [hlt]
    have hw : IntKind.i64.wrap ((k : Int) + 1) = ((k + 1 : Nat) : Int) := wrap_i64 (by omega) (by omega)
    have hlen : x.log.length ≤ 100000000 := by
      have := lLives_len (l.take k)
      rw [← hx] at this
      simp at this; omega
    have hbk := hb l[k] (List.getElem_mem hlt)
    repeat' (first | ((first | ((with_reducible apply AP.k_any); first | refine AP.S ?_ | refine AP.E ?_ | refine AP.T ?_) | ((with_reducible apply AP.k_any); refine AP.C (next_ac x l[k] hbk.1 hbk.2 hlen) ?_)) <;> (try simp only [nx, Nat.reduceAdd, Nat.reduceSub, BEq.rfl])) | ((with_reducible apply AP.k_nil); first | (refine AP.nil (hQ' _ ?_); clear hQ' Q') | refine AP.nil ?_) | ((with_reducible apply CP.k_reg); refine cp_regG fun Q' hQ' => ?_) | refine CP.W ?_ | refine cp_cond rfl (fun hc => ?_) (fun hc => ?_) | (simp only [List.append_eq, List.cons_append, List.nil_append]))
    · simp only [hw]
      refine ⟨l.length - (k + 1), ⟨tm 17 [(2, .bp 0 1 0), (3, .bp 1 1 0), (6, rs l), (7, I l.length), (8, I (k + 1 : Nat))], [⟨1, .c 37 [I 0, .sc (.slice none 0 0), I 0, B false, I 0, I 0, .sc (.slice none 0 0)]⟩, ⟨1, .c 37 [I (lNext x l[k]).book.cfg.epoch, .hd 2 (u1 + 1), I (lNext x l[k]).book.since, B (lNext x l[k]).book.whole, I (lNext x l[k]).book.upto, I (lNext x l[k]).boot, .hd 3 (u2 + 1)]⟩, ⟨(u1 + 1), .r tM 3 ((lNext x l[k]).book.cfg.members.map eM)⟩, ⟨(u2 + 1), .r tE 5 ((lNext x l[k]).log.map (eE (some tU)))⟩, ⟨(u3 + 1), .x⟩]⟩, by omega, (by simp only [tm, List.foldl_cons, List.foldl_nil, List.replicate_succ, List.replicate_zero, List.set_cons_succ, List.set_cons_zero, Nat.reduceAdd]; (refine ⟨?_, ?_⟩ <;> (try dsimp only) <;> (repeat' (first | exact Wk.nil | exact WkB.nil | apply Wk.same | apply Wk.de | apply Wk.nl | apply WkB.same | apply WkB.drop)))), k + 1, lNext x l[k], u1 + 1, u2 + 1, u3 + 1, by omega, rfl, ?_, rfl⟩
      rw [hx]; unfold lLives; rw [List.take_succ_eq_append_getElem hlt, List.foldl_append]; rfl
    · exfalso; simp at *; omega
  · have hk' : k = l.length := by omega
    have hx' : x = lLives l := by rw [hx, hk', List.take_length]
    subst hx'
    repeat' (first | ((first | ((with_reducible apply AP.k_any); first | refine AP.S ?_ | refine AP.E ?_ | refine AP.T ?_)) <;> (try simp only [nx, Nat.reduceAdd, Nat.reduceSub, BEq.rfl])) | ((with_reducible apply AP.k_nil); first | (refine AP.nil (hQ' _ ?_); clear hQ' Q') | refine AP.nil ?_) | ((with_reducible apply CP.k_reg); refine cp_regG fun Q' hQ' => ?_) | refine CP.W ?_ | refine cp_cond rfl (fun hc => ?_) (fun hc => ?_) | (simp only [List.append_eq, List.cons_append, List.nil_append]))
    all_goals first
      | (exfalso; simp at *; omega)
      | (refine RetQ.B [] ?_; (try dsimp only [resV, List.getD_cons_succ, List.getD_cons_zero]); (exact ⟨rfl, rfl⟩))
end Go.Proofs.Ytkkabbdmfepbiaa

namespace Go.Proofs.Ytkkabbdmfepbiaa
set_option linter.unusedVariables false
set_option linter.unusedSimpArgs false
set_option maxHeartbeats 8000000
open Go.RowKit
set_option maxRecDepth 100000
theorem copied_ac (e : Entry) (hb : e.body.length ≤ 100000000) : AC Try.prog 24 [.ag (eE none e)] [] (fun v bs' => v = .ag (eE (some tU) e) ∧ bs' = []) := by
  have h1 := copy_ac e.body hb
  refine AC.N Try.func24 Try.ntmps24 ?_
  intro X hρ hmks
  simp only [nx, Nat.reduceAdd, Nat.reduceSub, BEq.rfl]
  refine CP.gh gh_slot ?_; simp only [nx, Nat.reduceAdd, Nat.reduceSub, BEq.rfl]
  refine CP.gh gh_slot ?_; simp only [nx, Nat.reduceAdd, Nat.reduceSub, BEq.rfl]
  repeat' (first | ((first | ((with_reducible apply AP.k_any); first | refine AP.ST ?_ | (refine AP.Y ?_; dsimp only) | refine AP.G (fun hg => ?_) (fun hg => ?_) | (refine AP.V (fun c hnil => ?_); simp only [nz])  | refine AP.PF ?_)) <;> (try simp only [ nx, mx, rn, fq, Nat.mul_one, Bool.and_true, Bool.and_false, Nat.reduceBEq, Nat.reduceAdd, Nat.reduceSub, BEq.rfl])) | ((with_reducible apply AP.k_nil); first | (refine AP.nil (hQ' _ ?_); clear hQ' Q') | refine AP.nil ?_) | ((with_reducible apply CP.k_reg); refine cp_regG fun Q' hQ' => ?_) | refine CP.W ?_ | refine cp_cond rfl (fun hc => ?_) (fun hc => ?_) | (simp only [List.append_eq, List.cons_append, List.nil_append]))
  (exact RetQ.A [] (by exact ⟨rfl, rfl⟩))
theorem copieds_ac (l : List Entry) (hl : l.length ≤ 100000000) (hb : ∀ e ∈ l, e.body.length ≤ 100000000) : AC Try.prog 17 [es none none l] [] (fun v bs' => v = es (some tE) (some tU) l ∧ bs' = []) := by
  refine AC.N Try.func17 Try.ntmps17 ?_
  intro X hρ hmks
  simp only [nx, Nat.reduceAdd, Nat.reduceSub, BEq.rfl]
  repeat' (first | ((first | ((with_reducible apply AP.k_any); first | refine AP.ST ?_ | (refine AP.Y ?_; dsimp only) | refine AP.G (fun hg => ?_) (fun hg => ?_) | (refine AP.V (fun c hnil => ?_); simp only [nz])  | refine AP.PF ?_)) <;> (try simp only [ nx, mx, rn, fq, Nat.mul_one, Bool.and_true, Bool.and_false, Nat.reduceBEq, Nat.reduceAdd, Nat.reduceSub, BEq.rfl])) | ((with_reducible apply AP.k_nil); first | (refine AP.nil (hQ' _ ?_); clear hQ' Q') | refine AP.nil ?_) | ((with_reducible apply CP.k_reg); refine cp_regG fun Q' hQ' => ?_) | refine CP.W ?_ | refine cp_cond rfl (fun hc => ?_) (fun hc => ?_) | (simp only [List.append_eq, List.cons_append, List.nil_append]))
  refine CP.gh (gh_nil (t := 3) (e := tE) (k := 5) rfl) ?_
  simp only [nx, Nat.reduceAdd, Nat.reduceSub, BEq.rfl]
  refine CP.gh gh_slot ?_; simp only [nx, Nat.reduceAdd, Nat.reduceSub, BEq.rfl]
  refine CP.gh gh_slot ?_; simp only [nx, Nat.reduceAdd, Nat.reduceSub, BEq.rfl]
  refine cp_loopS [3, 4, 5, 6, 7, 8, 9, 10, 11, 12, 13, 14, 15, 16, 17, 18] (fun a : Nat × Nat × Nat => l.length - a.1) (fun a => a.1 ≤ l.length) (fun a => [(4, I a.1), (3, .hd 0 (a.1 + 1))])
    (fun a => [(0, ⟨a.1 + 1, .r tE 5 ((l.take a.1).map (eE (some tU)))⟩), (1, ⟨a.2.1, .x⟩), (2, ⟨a.2.2, .x⟩)]) (0, 0, 0) (Nat.zero_le _) (by exact Gh.W) ?_
  rintro ⟨k, u, v⟩ hk
  simp only [setT, deT, setB, List.set_cons_succ, List.set_cons_zero]
  dsimp only at hk
  by_cases hlt : k < l.length
  · have q1 : decide ((k : Int) < (l.length : Int)) = true := by simp; omega
    have q2 : IntKind.i64.wrap ((k : Int) + 1) = ((k + 1 : Nat) : Int) := wrap_i64 (by omega) (by omega)
    have hr : (l.map (eE none))[k]? = some (eE none l[k]) := by rw [List.getElem?_map, List.getElem?_eq_getElem hlt]; rfl
    have hlen : ((l.take k).map (eE (some tU))).length + 1 ≤ 1000000000 := by rw [List.length_map, List.length_take]; omega
    have ht : (l.take (k + 1)).map (eE (some tU)) = (l.take k).map (eE (some tU)) ++ [eE (some tU) l[k]] := by rw [List.take_succ_eq_append_getElem hlt, List.map_append]; rfl
    have h1 := copied_ac l[k] (hb _ (List.getElem_mem hlt))
    repeat' (first | ((first | ((with_reducible apply AP.k_any); first | refine AP.ST ?_ | (refine AP.Y ?_; dsimp only) | refine AP.G (fun hg => ?_) (fun hg => ?_) | (refine AP.V (fun c hnil => ?_); simp only [nz])  | refine AP.PF ?_)) <;> (try simp only [q1, q2, List.length_map, nx, mx, rn, fq, Nat.mul_one, Bool.and_true, Bool.and_false, Nat.reduceBEq, Nat.reduceAdd, Nat.reduceSub, BEq.rfl])) | ((with_reducible apply AP.k_nil); first | (refine AP.nil (hQ' _ ?_); clear hQ' Q') | refine AP.nil ?_) | ((with_reducible apply CP.k_reg); refine cp_regG fun Q' hQ' => ?_) | refine CP.W ?_ | refine cp_cond rfl (fun hc => ?_) (fun hc => ?_) | (simp only [List.append_eq, List.cons_append, List.nil_append]))
    refine ⟨(k + 1, u + 1 + 1, v), by (dsimp only; omega), by (dsimp only; omega), ?_⟩
    simp only [ht]
    exact Gh.W
  · obtain rfl : k = l.length := by omega
    have q1 : decide ((l.length : Int) < (l.length : Int)) = false := by simp
    have e : l.take l.length = l := List.take_length
    repeat' (first | ((first | ((with_reducible apply AP.k_any); first | refine AP.ST ?_ | (refine AP.Y ?_; dsimp only) | refine AP.G (fun hg => ?_) (fun hg => ?_) | (refine AP.V (fun c hnil => ?_); simp only [nz])  | refine AP.PF ?_)) <;> (try simp only [q1, e, List.length_map, nx, mx, rn, fq, Nat.mul_one, Bool.and_true, Bool.and_false, Nat.reduceBEq, Nat.reduceAdd, Nat.reduceSub, BEq.rfl])) | ((with_reducible apply AP.k_nil); first | (refine AP.nil (hQ' _ ?_); clear hQ' Q') | refine AP.nil ?_) | ((with_reducible apply CP.k_reg); refine cp_regG fun Q' hQ' => ?_) | refine CP.W ?_ | refine cp_cond rfl (fun hc => ?_) (fun hc => ?_) | (simp only [List.append_eq, List.cons_append, List.nil_append]))
    (exact RetQ.A [] (by exact ⟨rfl, rfl⟩))
theorem dnext_book (x : Life) (bk : Book) (dr : Bool) (en : Entry) (ha : bk.cfg.members.length ≤ 100000000) : AC Try.prog 11 [lO x, .ag (eR ⟨1, bk, dr, en⟩)] [] (fun v bs' => v = lO (lBook x ⟨1, bk, dr, en⟩) ∧ bs' = []) := by
  have h1 := rconfig_ac bk.cfg ha
  cases dr with
  | true =>
    refine AC.N Try.func11 Try.ntmps11 ?_
    intro X hρ hmks
    simp only [nx, Nat.reduceAdd, Nat.reduceSub, BEq.rfl]
    refine CP.gh gh_slot ?_; simp only [nx, Nat.reduceAdd, Nat.reduceSub, BEq.rfl]
    refine CP.gh gh_slot ?_; simp only [nx, Nat.reduceAdd, Nat.reduceSub, BEq.rfl]
    repeat' (first | ((first | ((with_reducible apply AP.k_any); first | refine AP.ST ?_ | (refine AP.Y ?_; dsimp only) | refine AP.G (fun hg => ?_) (fun hg => ?_) | (refine AP.V (fun c hnil => ?_); simp only [nz])  | refine AP.PF ?_)) <;> (try simp only [ nx, mx, rn, fq, Nat.mul_one, Bool.and_true, Bool.and_false, Nat.reduceBEq, Nat.reduceAdd, Nat.reduceSub, BEq.rfl])) | ((with_reducible apply AP.k_nil); first | (refine AP.nil (hQ' _ ?_); clear hQ' Q') | refine AP.nil ?_) | ((with_reducible apply CP.k_reg); refine cp_regG fun Q' hQ' => ?_) | refine CP.W ?_ | refine cp_cond rfl (fun hc => ?_) (fun hc => ?_) | (simp only [List.append_eq, List.cons_append, List.nil_append]))
    (exact RetQ.A [] (by exact ⟨rfl, rfl⟩))
  | false =>
    refine AC.N Try.func11 Try.ntmps11 ?_
    intro X hρ hmks
    simp only [nx, Nat.reduceAdd, Nat.reduceSub, BEq.rfl]
    refine CP.gh gh_slot ?_; simp only [nx, Nat.reduceAdd, Nat.reduceSub, BEq.rfl]
    refine CP.gh gh_slot ?_; simp only [nx, Nat.reduceAdd, Nat.reduceSub, BEq.rfl]
    repeat' (first | ((first | ((with_reducible apply AP.k_any); first | refine AP.ST ?_ | (refine AP.Y ?_; dsimp only) | refine AP.G (fun hg => ?_) (fun hg => ?_) | (refine AP.V (fun c hnil => ?_); simp only [nz])  | refine AP.PF ?_)) <;> (try simp only [ nx, mx, rn, fq, Nat.mul_one, Bool.and_true, Bool.and_false, Nat.reduceBEq, Nat.reduceAdd, Nat.reduceSub, BEq.rfl])) | ((with_reducible apply AP.k_nil); first | (refine AP.nil (hQ' _ ?_); clear hQ' Q') | refine AP.nil ?_) | ((with_reducible apply CP.k_reg); refine cp_regG fun Q' hQ' => ?_) | refine CP.W ?_ | refine cp_cond rfl (fun hc => ?_) (fun hc => ?_) | (simp only [List.append_eq, List.cons_append, List.nil_append]))
    (exact RetQ.A [] (by exact ⟨rfl, rfl⟩))
theorem dnext_entry (x : Life) (bk : Book) (dr : Bool) (en : Entry) (hb : en.body.length ≤ 100000000) (hx : x.log.length ≤ 100000000) : AC Try.prog 11 [lO x, .ag (eR ⟨2, bk, dr, en⟩)] [] (fun v bs' => v = lO (lEntry x ⟨2, bk, dr, en⟩) ∧ bs' = []) := by
  have h1 := copy_ac en.body hb
  have hw : IntKind.i64.wrap ((x.log.length : Int) + 1) = (x.log.length : Int) + 1 := wrap_i64 (by omega) (by omega)
  by_cases hp : en.pos = (x.log.length : Int) + 1
  · have e : lEntry x ⟨2, bk, dr, en⟩ = ⟨x.book, x.boot, x.log ++ [en]⟩ := if_pos hp
    rw [e]
    have q1 : (en.pos == (x.log.length : Int) + 1) = true := by simp [hp]
    have hl : (x.log.map (eE (some tU))).length + 1 ≤ 1000000000 := by rw [List.length_map]; omega
    have hm : (x.log ++ [en]).map (eE (some tU)) = x.log.map (eE (some tU)) ++ [eE (some tU) en] := List.map_append
    refine AC.N Try.func11 Try.ntmps11 ?_
    intro X hρ hmks
    simp only [nx, Nat.reduceAdd, Nat.reduceSub, BEq.rfl]
    refine CP.gh gh_slot ?_; simp only [nx, Nat.reduceAdd, Nat.reduceSub, BEq.rfl]
    refine CP.gh gh_slot ?_; simp only [nx, Nat.reduceAdd, Nat.reduceSub, BEq.rfl]
    refine CP.gh gh_slot ?_; simp only [nx, Nat.reduceAdd, Nat.reduceSub, BEq.rfl]
    repeat' (first | ((first | ((with_reducible apply AP.k_any); first | refine AP.ST ?_ | (refine AP.Y ?_; dsimp only) | refine AP.G (fun hg => ?_) (fun hg => ?_) | (refine AP.V (fun c hnil => ?_); simp only [nz])  | refine AP.PF ?_)) <;> (try simp only [hw, q1, List.length_map, nx, mx, rn, fq, Nat.mul_one, Bool.and_true, Bool.and_false, Nat.reduceBEq, Nat.reduceAdd, Nat.reduceSub, BEq.rfl])) | ((with_reducible apply AP.k_nil); first | (refine AP.nil (hQ' _ ?_); clear hQ' Q') | refine AP.nil ?_) | ((with_reducible apply CP.k_reg); refine cp_regG fun Q' hQ' => ?_) | refine CP.W ?_ | refine cp_cond rfl (fun hc => ?_) (fun hc => ?_) | (simp only [List.append_eq, List.cons_append, List.nil_append]))
    (exact RetQ.A [] (by exact ⟨congrArg (fun r => AV.ag [I x.book.cfg.epoch, ms (some tM) x.book.cfg.members, I x.book.since, B x.book.whole, I x.book.upto, I x.boot, .sl (some tE) 5 r]) hm.symm, rfl⟩))
  · have e : lEntry x ⟨2, bk, dr, en⟩ = x := if_neg hp
    rw [e]
    have q1 : (en.pos == (x.log.length : Int) + 1) = false := by simp [hp]
    refine AC.N Try.func11 Try.ntmps11 ?_
    intro X hρ hmks
    simp only [nx, Nat.reduceAdd, Nat.reduceSub, BEq.rfl]
    refine CP.gh gh_slot ?_; simp only [nx, Nat.reduceAdd, Nat.reduceSub, BEq.rfl]
    refine CP.gh gh_slot ?_; simp only [nx, Nat.reduceAdd, Nat.reduceSub, BEq.rfl]
    refine CP.gh gh_slot ?_; simp only [nx, Nat.reduceAdd, Nat.reduceSub, BEq.rfl]
    repeat' (first | ((first | ((with_reducible apply AP.k_any); first | refine AP.ST ?_ | (refine AP.Y ?_; dsimp only) | refine AP.G (fun hg => ?_) (fun hg => ?_) | (refine AP.V (fun c hnil => ?_); simp only [nz])  | refine AP.PF ?_)) <;> (try simp only [hw, q1, List.length_map, nx, mx, rn, fq, Nat.mul_one, Bool.and_true, Bool.and_false, Nat.reduceBEq, Nat.reduceAdd, Nat.reduceSub, BEq.rfl])) | ((with_reducible apply AP.k_nil); first | (refine AP.nil (hQ' _ ?_); clear hQ' Q') | refine AP.nil ?_) | ((with_reducible apply CP.k_reg); refine cp_regG fun Q' hQ' => ?_) | refine CP.W ?_ | refine cp_cond rfl (fun hc => ?_) (fun hc => ?_) | (simp only [List.append_eq, List.cons_append, List.nil_append]))
    (exact RetQ.A [] (by exact ⟨rfl, rfl⟩))
theorem dnext_whole (x : Life) (bk : Book) (dr : Bool) (en : Entry) : AC Try.prog 11 [lO x, .ag (eR ⟨3, bk, dr, en⟩)] [] (fun v bs' => v = lO (lWhole x) ∧ bs' = []) := by
  refine AC.N Try.func11 Try.ntmps11 ?_
  intro X hρ hmks
  simp only [nx, Nat.reduceAdd, Nat.reduceSub, BEq.rfl]
  repeat' (first | ((first | ((with_reducible apply AP.k_any); first | refine AP.ST ?_ | (refine AP.Y ?_; dsimp only) | refine AP.G (fun hg => ?_) (fun hg => ?_) | (refine AP.V (fun c hnil => ?_); simp only [nz])  | refine AP.PF ?_)) <;> (try simp only [ nx, mx, rn, fq, Nat.mul_one, Bool.and_true, Bool.and_false, Nat.reduceBEq, Nat.reduceAdd, Nat.reduceSub, BEq.rfl])) | ((with_reducible apply AP.k_nil); first | (refine AP.nil (hQ' _ ?_); clear hQ' Q') | refine AP.nil ?_) | ((with_reducible apply CP.k_reg); refine cp_regG fun Q' hQ' => ?_) | refine CP.W ?_ | refine cp_cond rfl (fun hc => ?_) (fun hc => ?_) | (simp only [List.append_eq, List.cons_append, List.nil_append]))
  (exact RetQ.A [] (by exact ⟨rfl, rfl⟩))
theorem dnext_boot (x : Life) (bk : Book) (dr : Bool) (en : Entry) : AC Try.prog 11 [lO x, .ag (eR ⟨4, bk, dr, en⟩)] [] (fun v bs' => v = lO (lBoot x) ∧ bs' = []) := by
  refine AC.N Try.func11 Try.ntmps11 ?_
  intro X hρ hmks
  simp only [nx, Nat.reduceAdd, Nat.reduceSub, BEq.rfl]
  repeat' (first | ((first | ((with_reducible apply AP.k_any); first | refine AP.ST ?_ | (refine AP.Y ?_; dsimp only) | refine AP.G (fun hg => ?_) (fun hg => ?_) | (refine AP.V (fun c hnil => ?_); simp only [nz])  | refine AP.PF ?_)) <;> (try simp only [ nx, mx, rn, fq, Nat.mul_one, Bool.and_true, Bool.and_false, Nat.reduceBEq, Nat.reduceAdd, Nat.reduceSub, BEq.rfl])) | ((with_reducible apply AP.k_nil); first | (refine AP.nil (hQ' _ ?_); clear hQ' Q') | refine AP.nil ?_) | ((with_reducible apply CP.k_reg); refine cp_regG fun Q' hQ' => ?_) | refine CP.W ?_ | refine cp_cond rfl (fun hc => ?_) (fun hc => ?_) | (simp only [List.append_eq, List.cons_append, List.nil_append]))
  (exact RetQ.A [] (by exact ⟨rfl, rfl⟩))
theorem dnext_none (x : Life) (r : Record) (h1 : r.kind ≠ 1) (h2 : r.kind ≠ 2) (h3 : r.kind ≠ 3) (h4 : r.kind ≠ 4) : AC Try.prog 11 [lO x, .ag (eR r)] [] (fun v bs' => v = lO x ∧ bs' = []) := by
  have k : ∀ n : Nat, n < 256 → r.kind ≠ UInt8.ofNat n → ((r.kind.toNat : Int) == (n : Int)) = false := fun n hn hne => by
    rw [beq_eq_false_iff_ne]
    intro he
    apply hne
    apply UInt8.toNat_inj.1
    rw [UInt8.toNat_ofNat']
    omega
  have q1 : ((r.kind.toNat : Int) == 1) = false := k 1 (by omega) h1
  have q2 : ((r.kind.toNat : Int) == 2) = false := k 2 (by omega) h2
  have q3 : ((r.kind.toNat : Int) == 3) = false := k 3 (by omega) h3
  have q4 : ((r.kind.toNat : Int) == 4) = false := k 4 (by omega) h4
  refine AC.N Try.func11 Try.ntmps11 ?_
  intro X hρ hmks
  simp only [nx, Nat.reduceAdd, Nat.reduceSub, BEq.rfl]
  repeat' (first | ((first | ((with_reducible apply AP.k_any); first | refine AP.ST ?_ | (refine AP.Y ?_; dsimp only) | refine AP.G (fun hg => ?_) (fun hg => ?_) | (refine AP.V (fun c hnil => ?_); simp only [nz])  | refine AP.PF ?_)) <;> (try simp only [q1, q2, q3, q4, nx, mx, rn, fq, Nat.mul_one, Bool.and_true, Bool.and_false, Nat.reduceBEq, Nat.reduceAdd, Nat.reduceSub, BEq.rfl])) | ((with_reducible apply AP.k_nil); first | (refine AP.nil (hQ' _ ?_); clear hQ' Q') | refine AP.nil ?_) | ((with_reducible apply CP.k_reg); refine cp_regG fun Q' hQ' => ?_) | refine CP.W ?_ | refine cp_cond rfl (fun hc => ?_) (fun hc => ?_) | (simp only [List.append_eq, List.cons_append, List.nil_append]))
  (exact RetQ.A [] (by exact ⟨rfl, rfl⟩))
theorem dnext_ac (x : Life) (r : Record) (ha : r.book.cfg.members.length ≤ 100000000) (hb : r.entry.body.length ≤ 100000000) (hx : x.log.length ≤ 100000000) : AC Try.prog 11 [lO x, .ag (eR r)] [] (fun v bs' => v = lO (lNext x r) ∧ bs' = []) := by
  obtain ⟨kind, bk, dr, en⟩ := r
  by_cases h1 : kind = 1
  · subst h1; exact dnext_book x bk dr en ha
  by_cases h2 : kind = 2
  · subst h2; exact dnext_entry x bk dr en hb hx
  by_cases h3 : kind = 3
  · subst h3; exact dnext_whole x bk dr en
  by_cases h4 : kind = 4
  · subst h4; exact dnext_boot x bk dr en
  have e : lNext x ⟨kind, bk, dr, en⟩ = x := by simp [lNext, h1, h2, h3, h4]
  rw [e]
  exact dnext_none x ⟨kind, bk, dr, en⟩ h1 h2 h3 h4
theorem dlives_ac (l : List Record) (hl : l.length ≤ 100000000) (hb : ∀ r ∈ l, r.book.cfg.members.length ≤ 100000000 ∧ r.entry.body.length ≤ 100000000) :
    AC Try.prog 6 [rs l] [] (fun v bs' => v = lO (lLives l) ∧ bs' = []) := by
  refine AC.N Try.func6 Try.ntmps6 ?_
  intro X hρ hmks
  simp only [nx, Nat.reduceAdd, Nat.reduceSub, BEq.rfl]
  repeat' (first | ((first | ((with_reducible apply AP.k_any); first | refine AP.ST ?_ | (refine AP.Y ?_; dsimp only) | refine AP.G (fun hg => ?_) (fun hg => ?_) | (refine AP.V (fun c hnil => ?_); simp only [nz])  | refine AP.PF ?_) | ((with_reducible apply DW.k_any); first | refine DW.ST ?_ | ((fail_if_success refine DW.known rfl ?_); refine DW.G (fun hg => ?_) (fun hg => ?_))) ) <;> (try simp only [ nx, mx, rn, fq, Nat.mul_one, Bool.and_true, Bool.and_false, Nat.reduceBEq, Nat.reduceAdd, Nat.reduceSub, BEq.rfl])) | ((with_reducible apply AP.k_nil); first | (refine AP.nil (hQ' _ ?_); clear hQ' Q') | refine AP.nil ?_) | ((with_reducible apply CP.k_drw); refine cp_drwX fun Q' hQ' => ?_) | ((with_reducible apply CP.k_drw1); refine cp_drawX ?_) | ((with_reducible apply DW.k_nil); refine DW.nl ?_; first | (refine hQ' _ ?_; clear hQ' Q') | skip) | ((with_reducible apply CP.k_reg); refine cp_regG fun Q' hQ' => ?_) | refine CP.W ?_ | refine cp_cond rfl (fun hc => ?_) (fun hc => ?_) | (simp only [List.append_eq, List.cons_append, List.nil_append]))
  refine CP.gh (gh_nilc (j := 1) (off := 1) (e := tM) (k := 3) rfl rfl) ?_
  simp only [nx, Nat.reduceAdd, Nat.reduceSub, BEq.rfl]
  refine CP.gh (gh_nilc (j := 1) (off := 6) (e := tE) (k := 5) rfl rfl) ?_
  simp only [nx, Nat.reduceAdd, Nat.reduceSub, BEq.rfl]
  refine CP.gh gh_slot ?_; simp only [nx, Nat.reduceAdd, Nat.reduceSub, BEq.rfl]
  refine CP.gh gh_slot ?_; simp only [nx, Nat.reduceAdd, Nat.reduceSub, BEq.rfl]
  refine cp_loopS [4, 5, 6, 7, 8, 9, 10, 11, 12, 13, 14, 15, 16] (fun a : Nat × Life => l.length - a.1) (fun a => a.1 ≤ l.length ∧ a.2 = lLives (l.take a.1)) (fun a => [(4, I a.1)])
    (fun a => [(1, ⟨1, .c 37 [I a.2.book.cfg.epoch, .hd 2 (a.1 + 1), I a.2.book.since, B a.2.book.whole, I a.2.book.upto, I a.2.boot, .hd 3 (a.1 + 1)]⟩), (2, ⟨a.1 + 1, .r tM 3 (a.2.book.cfg.members.map eM)⟩), (3, ⟨a.1 + 1, .r tE 5 (a.2.log.map (eE (some tU)))⟩), (4, ⟨0, .x⟩), (5, ⟨0, .x⟩)]) (0, lZero) ⟨Nat.zero_le _, rfl⟩ (by exact Gh.W) ?_
  rintro ⟨k, x⟩ ⟨hk, hx⟩
  simp only [setT, deT, setB, List.set_cons_succ, List.set_cons_zero]
  dsimp only at hk hx
  by_cases hlt : k < l.length
  · have q1 : decide ((k : Int) < (l.length : Int)) = true := by simp; omega
    have q2 : IntKind.i64.wrap ((k : Int) + 1) = ((k + 1 : Nat) : Int) := wrap_i64 (by omega) (by omega)
    have hr : (l.map eR)[k]? = some (eR l[k]) := by rw [List.getElem?_map, List.getElem?_eq_getElem hlt]; rfl
    have hlen : x.log.length ≤ 100000000 := by
      have := lLives_len (l.take k)
      rw [← hx] at this
      simp at this; omega
    have hbk := hb l[k] (List.getElem_mem hlt)
    have h1 := dnext_ac x l[k] hbk.1 hbk.2 hlen
    have hx2 : lNext x l[k] = lLives (l.take (k + 1)) := by
      rw [hx]; unfold lLives; rw [List.take_succ_eq_append_getElem hlt, List.foldl_append]; rfl
    generalize lNext x l[k] = y at *
    repeat' (first | ((first | ((with_reducible apply AP.k_any); first | refine AP.ST ?_ | (refine AP.Y ?_; dsimp only) | refine AP.G (fun hg => ?_) (fun hg => ?_) | (refine AP.V (fun c hnil => ?_); simp only [nz])  | refine AP.PF ?_) | ((with_reducible apply DW.k_any); first | refine DW.ST ?_ | ((fail_if_success refine DW.known rfl ?_); refine DW.G (fun hg => ?_) (fun hg => ?_))) ) <;> (try simp only [q1, q2, List.length_map, nx, mx, rn, fq, Nat.mul_one, Bool.and_true, Bool.and_false, Nat.reduceBEq, Nat.reduceAdd, Nat.reduceSub, BEq.rfl])) | ((with_reducible apply AP.k_nil); first | (refine AP.nil (hQ' _ ?_); clear hQ' Q') | refine AP.nil ?_) | ((with_reducible apply CP.k_drw); refine cp_drwX fun Q' hQ' => ?_) | ((with_reducible apply CP.k_drw1); refine cp_drawX ?_) | ((with_reducible apply DW.k_nil); refine DW.nl ?_; first | (refine hQ' _ ?_; clear hQ' Q') | skip) | ((with_reducible apply CP.k_reg); refine cp_regG fun Q' hQ' => ?_) | refine CP.W ?_ | refine cp_cond rfl (fun hc => ?_) (fun hc => ?_) | (simp only [List.append_eq, List.cons_append, List.nil_append]))
    exact ⟨(k + 1, y), by (dsimp only; omega), ⟨by (dsimp only; omega), hx2⟩, by exact Gh.W⟩
  · obtain rfl : k = l.length := by omega
    have q1 : decide ((l.length : Int) < (l.length : Int)) = false := by simp
    have e : l.take l.length = l := List.take_length
    rw [e] at hx
    subst hx
    repeat' (first | ((first | ((with_reducible apply AP.k_any); first | refine AP.ST ?_ | (refine AP.Y ?_; dsimp only) | refine AP.G (fun hg => ?_) (fun hg => ?_) | (refine AP.V (fun c hnil => ?_); simp only [nz])  | refine AP.PF ?_) | ((with_reducible apply DW.k_any); first | refine DW.ST ?_ | ((fail_if_success refine DW.known rfl ?_); refine DW.G (fun hg => ?_) (fun hg => ?_))) ) <;> (try simp only [q1, List.length_map, nx, mx, rn, fq, Nat.mul_one, Bool.and_true, Bool.and_false, Nat.reduceBEq, Nat.reduceAdd, Nat.reduceSub, BEq.rfl])) | ((with_reducible apply AP.k_nil); first | (refine AP.nil (hQ' _ ?_); clear hQ' Q') | refine AP.nil ?_) | ((with_reducible apply CP.k_drw); refine cp_drwX fun Q' hQ' => ?_) | ((with_reducible apply CP.k_drw1); refine cp_drawX ?_) | ((with_reducible apply DW.k_nil); refine DW.nl ?_; first | (refine hQ' _ ?_; clear hQ' Q') | skip) | ((with_reducible apply CP.k_reg); refine cp_regG fun Q' hQ' => ?_) | refine CP.W ?_ | refine cp_cond rfl (fun hc => ?_) (fun hc => ?_) | (simp only [List.append_eq, List.cons_append, List.nil_append]))
    (exact RetQ.A [] (by exact ⟨rfl, rfl⟩))
theorem dlive_ac (x : Life) (r : Record) (hm : x.book.cfg.members.length ≤ 100000000) (hl : x.log.length ≤ 100000000) (hb : ∀ e ∈ x.log, e.body.length ≤ 100000000) (ha : r.book.cfg.members.length ≤ 100000000) (hrb : r.entry.body.length ≤ 100000000) :
    AC Try.prog 10 [.ag (eL none none none x), .ag (eR r)] [] (fun v bs' => v = lO (lNext x r) ∧ bs' = []) := by
  have h1 := copieds_ac x.log hl hb
  have h2 := rconfig_ac x.book.cfg hm
  have h3 := dnext_ac x r ha hrb hl
  refine AC.N Try.func10 Try.ntmps10 ?_
  intro X hρ hmks
  simp only [nx, Nat.reduceAdd, Nat.reduceSub, BEq.rfl]
  refine CP.gh gh_slot ?_; simp only [nx, Nat.reduceAdd, Nat.reduceSub, BEq.rfl]
  refine CP.gh gh_slot ?_; simp only [nx, Nat.reduceAdd, Nat.reduceSub, BEq.rfl]
  repeat' (first | ((first | ((with_reducible apply AP.k_any); first | refine AP.ST ?_ | (refine AP.Y ?_; dsimp only) | refine AP.G (fun hg => ?_) (fun hg => ?_) | (refine AP.V (fun c hnil => ?_); simp only [nz])  | refine AP.PF ?_)) <;> (try simp only [ nx, mx, rn, fq, Nat.mul_one, Bool.and_true, Bool.and_false, Nat.reduceBEq, Nat.reduceAdd, Nat.reduceSub, BEq.rfl])) | ((with_reducible apply AP.k_nil); first | (refine AP.nil (hQ' _ ?_); clear hQ' Q') | refine AP.nil ?_) | ((with_reducible apply CP.k_reg); refine cp_regG fun Q' hQ' => ?_) | refine CP.W ?_ | refine cp_cond rfl (fun hc => ?_) (fun hc => ?_) | (simp only [List.append_eq, List.cons_append, List.nil_append]))
  (exact RetQ.A [] (by exact ⟨rfl, rfl⟩))
end Go.Proofs.Ytkkabbdmfepbiaa

namespace Go.Proofs.Ytkkabbdmfepbiaa
set_option linter.unusedVariables false
set_option linter.unusedSimpArgs false
set_option maxHeartbeats 8000000
open Go.RowKit
set_option maxRecDepth 100000
abbrev lR (x : Life) : AV := .ag (eL none none none x)
theorem live_ac (x : Life) (r : Record) (hm : x.book.cfg.members.length ≤ 100000000) (hl : x.log.length ≤ 100000000) (hb : ∀ e ∈ x.log, e.body.length ≤ 100000000) (ha : r.book.cfg.members.length ≤ 100000000) (hrb : r.entry.body.length ≤ 100000000) :
    AC Try.prog 9 [lR x, .ag (eR r)] [] (fun v bs' => v = lO (lNext x r) ∧ bs' = []) := by
  refine AC.N Try.func9 Try.ntmps9 ?_
  intro X hρ hmks
  simp only [nx, Nat.reduceAdd, Nat.reduceSub, BEq.rfl]
  repeat' (first | ((first | ((with_reducible apply AP.k_any); first | refine AP.S ?_ | refine AP.E ?_ | refine AP.T ?_) | ((with_reducible apply AP.k_any); refine AP.C (own_ac x.book.cfg hm) ?_)) <;> (try simp only [nx, Nat.reduceAdd, Nat.reduceSub, BEq.rfl])) | ((with_reducible apply AP.k_nil); first | (refine AP.nil (hQ' _ ?_); clear hQ' Q') | refine AP.nil ?_) | ((with_reducible apply CP.k_reg); refine cp_regG fun Q' hQ' => ?_) | refine CP.W ?_ | refine cp_cond rfl (fun hc => ?_) (fun hc => ?_) | (simp only [List.append_eq, List.cons_append, List.nil_append]))
  refine CP.gh (gh_nil (t := 5) (e := tE) (k := 5) rfl) ?_
  simp only [nx, Nat.reduceAdd, Nat.reduceSub, BEq.rfl]
  refine CP.gh gh_slot ?_
  simp only [nx, Nat.reduceAdd, Nat.reduceSub, BEq.rfl]
  refine CP.gh gh_slot ?_
  simp only [nx, Nat.reduceAdd, Nat.reduceSub, BEq.rfl]
  refine cp_loopW (fun n s => ∃ (k u u5 u6 : Nat), k ≤ x.log.length ∧ n = x.log.length - k ∧ s = ⟨tm 35 [(2, .bp 0 1 0), (3, .bp 1 1 0), (4, .bp 2 1 0), (5, .hd 4 u), (15, es none none x.log), (16, I x.log.length), (17, I k)], [⟨1, .c 37 [I x.book.cfg.epoch, .hd 3 1, I x.book.since, B x.book.whole, I x.book.upto, I x.boot, es none none x.log]⟩, ⟨1, .c 32 (eR r)⟩, ⟨1, .c 37 [I 0, .sc (.slice none 0 0), I 0, B false, I 0, I 0, .sc (.slice none 0 0)]⟩, ⟨1, .r tM 3 (x.book.cfg.members.map eM)⟩, ⟨u, .r tE 5 ((x.log.take k).map (eE (some tU)))⟩, ⟨u5, .x⟩, ⟨u6, .x⟩]⟩) x.log.length ⟨tm 35 [(2, .bp 0 1 0), (3, .bp 1 1 0), (4, .bp 2 1 0), (5, .hd 4 1), (15, es none none x.log), (16, I x.log.length), (17, I (0 : Nat))], [⟨1, .c 37 [I x.book.cfg.epoch, .hd 3 1, I x.book.since, B x.book.whole, I x.book.upto, I x.boot, es none none x.log]⟩, ⟨1, .c 32 (eR r)⟩, ⟨1, .c 37 [I 0, .sc (.slice none 0 0), I 0, B false, I 0, I 0, .sc (.slice none 0 0)]⟩, ⟨1, .r tM 3 (x.book.cfg.members.map eM)⟩, ⟨1, .r tE 5 ((x.log.take 0).map (eE (some tU)))⟩, ⟨0, .x⟩, ⟨0, .x⟩]⟩ (by simp only [List.length_map, List.take_zero, List.map_nil]; simp only [tm, List.foldl_cons, List.foldl_nil, List.replicate_succ, List.replicate_zero, List.set_cons_succ, List.set_cons_zero, Nat.reduceAdd]; (refine ⟨?_, ?_⟩ <;> (try dsimp only) <;> (repeat' (first | exact Wk.nil | exact WkB.nil | apply Wk.same | apply Wk.de | apply Wk.nl | apply WkB.same | apply WkB.drop)))) ⟨0, 1, 0, 0, by omega, by omega, rfl⟩ ?_
  rintro n s ⟨k, u, u5, u6, hk, rfl, rfl⟩
  simp only [tm, List.foldl_cons, List.foldl_nil, List.replicate_succ, List.replicate_zero, List.set_cons_succ, List.set_cons_zero, Nat.reduceAdd]
  by_cases hlt : k < x.log.length
  · have hr : (x.log.map (eE none))[k]? = some (eE none x.log[k]) := by simp [hlt]
    have hw : IntKind.i64.wrap ((k : Int) + 1) = ((k + 1 : Nat) : Int) := wrap_i64 (by omega) (by omega)
    have hlen : ((x.log.take k).map (eE (some tU))).length ≤ 100000000 := by simp; omega
    have hbk := hb x.log[k] (List.getElem_mem hlt)
    repeat' (first | ((first | ((with_reducible apply AP.k_any); first | refine AP.S ?_ | refine AP.E ?_ | refine AP.T ?_) | ((with_reducible apply AP.k_any); refine AP.C (bclone_ac x.log[k].body hbk) ?_)) <;> (try simp only [nx, Nat.reduceAdd, Nat.reduceSub, BEq.rfl])) | ((with_reducible apply AP.k_nil); first | (refine AP.nil (hQ' _ ?_); clear hQ' Q') | refine AP.nil ?_) | ((with_reducible apply CP.k_reg); refine cp_regG fun Q' hQ' => ?_) | refine CP.W ?_ | refine cp_cond rfl (fun hc => ?_) (fun hc => ?_) | (simp only [List.append_eq, List.cons_append, List.nil_append]))
    · simp only [hw]
      have ht : (x.log.take (k + 1)).map (eE (some tU)) = (x.log.take k).map (eE (some tU)) ++ [eE (some tU) x.log[k]] := by rw [List.take_succ_eq_append_getElem hlt, List.map_append]; rfl
      refine ⟨x.log.length - (k + 1), ⟨tm 35 [(2, .bp 0 1 0), (3, .bp 1 1 0), (4, .bp 2 1 0), (5, .hd 4 (u + 1)), (15, es none none x.log), (16, I x.log.length), (17, I (k + 1 : Nat))], [⟨1, .c 37 [I x.book.cfg.epoch, .hd 3 1, I x.book.since, B x.book.whole, I x.book.upto, I x.boot, es none none x.log]⟩, ⟨1, .c 32 (eR r)⟩, ⟨1, .c 37 [I 0, .sc (.slice none 0 0), I 0, B false, I 0, I 0, .sc (.slice none 0 0)]⟩, ⟨1, .r tM 3 (x.book.cfg.members.map eM)⟩, ⟨(u + 1), .r tE 5 ((x.log.take (k + 1)).map (eE (some tU)))⟩, ⟨(u5 + 1), .x⟩, ⟨(u6 + 1 + 1), .x⟩]⟩, by omega, ?_, k + 1, u + 1, u5 + 1, u6 + 1 + 1, by omega, rfl, rfl⟩
      rw [ht]
      simp only [tm, List.foldl_cons, List.foldl_nil, List.replicate_succ, List.replicate_zero, List.set_cons_succ, List.set_cons_zero, Nat.reduceAdd]
      (refine ⟨?_, ?_⟩ <;> (try dsimp only) <;> (repeat' (first | exact Wk.nil | exact WkB.nil | apply Wk.same | apply Wk.de | apply Wk.nl | apply WkB.same | apply WkB.drop)))
    · exfalso; simp at *; omega
  · have hk' : k = x.log.length := by omega
    subst hk'
    rw [List.take_length]
    repeat' (first | ((first | ((with_reducible apply AP.k_any); first | refine AP.S ?_ | refine AP.E ?_ | refine AP.T ?_) | ((with_reducible apply AP.k_any); refine AP.C (next_ac x r ha hrb hl) ?_)) <;> (try simp only [nx, Nat.reduceAdd, Nat.reduceSub, BEq.rfl])) | ((with_reducible apply AP.k_nil); first | (refine AP.nil (hQ' _ ?_); clear hQ' Q') | refine AP.nil ?_) | ((with_reducible apply CP.k_reg); refine cp_regG fun Q' hQ' => ?_) | refine CP.W ?_ | refine cp_cond rfl (fun hc => ?_) (fun hc => ?_) | (simp only [List.append_eq, List.cons_append, List.nil_append]))
    all_goals first
      | (exfalso; simp at *; done)
      | (exfalso; simp at *; omega)
      | (refine RetQ.B [] ?_; (try dsimp only [resV, List.getD_cons_succ, List.getD_cons_zero]); (exact ⟨rfl, rfl⟩))
end Go.Proofs.Ytkkabbdmfepbiaa

namespace Go.Proofs.Ytkkabbdmfepbiaa
set_option linter.unusedVariables false
set_option linter.unusedSimpArgs false
set_option maxHeartbeats 8000000
open Go.RowKit
set_option maxRecDepth 100000
def gA : Nat → List Record → Bool
  | _, [] => false
  | n, r :: l => if 4000 < n + r.entry.body.length + 50 ∨ 50 < r.book.cfg.members.length then true else gA (n + r.entry.body.length + 50) l
theorem gA_spec : ∀ {n : Nat} {l : List Record}, gA n l = false → n ≤ 4000 → n + 50 * l.length ≤ 4000 ∧ ∀ r ∈ l, r.book.cfg.members.length ≤ 50 ∧ r.entry.body.length ≤ 4000
  | n, [], _, hn => ⟨by simp; omega, fun r h => by simp at h⟩
  | n, r :: l, h, hn => by
    simp only [gA] at h
    split at h
    · cases h
    · rename_i h0
      have h1 := gA_spec h (by omega)
      refine ⟨by simp; omega, fun x hx => ?_⟩
      rcases List.mem_cons.1 hx with rfl | hx
      · omega
      · exact h1.2 x hx
theorem greatAll_ac (l : List Record) (hl : l.length ≤ 100000000) (hb : ∀ r ∈ l, r.entry.body.length ≤ 100000000) :
    AC Try.prog 4 [rs l] [] (fun v bs' => v = B (gA 0 l) ∧ bs' = []) := by
  refine AC.N Try.func4 Try.ntmps4 ?_
  intro X hρ hmks
  simp only [nx, Nat.reduceAdd, Nat.reduceSub, BEq.rfl]
  repeat' (first | ((first | ((with_reducible apply AP.k_any); first | refine AP.S ?_ | refine AP.E ?_ | (refine AP.Y ?_; dsimp only) | refine AP.G (fun hg => ?_) (fun hg => ?_))) <;> (try simp only [nx, Nat.reduceAdd, Nat.reduceSub, BEq.rfl])) | ((with_reducible apply AP.k_nil); first | (refine AP.nil (hQ' _ ?_); clear hQ' Q') | refine AP.nil ?_) | ((with_reducible apply CP.k_reg); refine cp_regG fun Q' hQ' => ?_) | refine CP.W ?_ | refine cp_cond rfl (fun hc => ?_) (fun hc => ?_) | (simp only [List.append_eq, List.cons_append, List.nil_append]))
  refine cp_loopW (fun m s => ∃ (k n : Nat), k ≤ l.length ∧ m = l.length - k ∧ n ≤ 4000 ∧ gA 0 l = gA n (l.drop k) ∧ s = ⟨tm 34 [(0, rs l), (2, B false), (3, I n), (4, I k)], []⟩) l.length ⟨tm 34 [(0, rs l), (2, B false), (3, I (0 : Nat)), (4, I (0 : Nat))], []⟩ (by simp only [tm, List.foldl_cons, List.foldl_nil, List.replicate_succ, List.replicate_zero, List.set_cons_succ, List.set_cons_zero, Nat.reduceAdd]; (refine ⟨?_, ?_⟩ <;> (try dsimp only) <;> (repeat' (first | exact Wk.nil | exact WkB.nil | apply Wk.same | apply Wk.de | apply Wk.nl | apply WkB.same | apply WkB.drop)))) ⟨0, 0, by omega, by omega, by omega, rfl, rfl⟩ ?_
  rintro m s ⟨k, n, hk, rfl, hn, he, rfl⟩
  simp only [tm, List.foldl_cons, List.foldl_nil, List.replicate_succ, List.replicate_zero, List.set_cons_succ, List.set_cons_zero, Nat.reduceAdd]
  by_cases hlt : k < l.length
  · have hr : (l.map eR)[k]? = some (eR l[k]) := by simp [hlt]
    have hw : IntKind.i64.wrap ((k : Int) + 1) = ((k + 1 : Nat) : Int) := wrap_i64 (by omega) (by omega)
    have hbk := hb l[k] (List.getElem_mem hlt)
    have hw1 : IntKind.i64.wrap ((n : Int) + (l[k].entry.body.length : Int)) = ((n + l[k].entry.body.length : Nat) : Int) := by rw [wrap_i64 (by omega) (by omega)]; omega
    have hw2 : IntKind.i64.wrap (((n + l[k].entry.body.length : Nat) : Int) + 50) = ((n + l[k].entry.body.length + 50 : Nat) : Int) := wrap_i64 (by omega) (by omega)
    rw [List.drop_eq_getElem_cons hlt] at he
    simp only [gA] at he
    repeat' (first | ((first | ((with_reducible apply AP.k_any); first | refine AP.S ?_ | refine AP.E ?_ | (refine AP.Y ?_; dsimp only) | refine AP.G (fun hg => ?_) (fun hg => ?_))) <;> (try simp only [nx, Nat.reduceAdd, Nat.reduceSub, BEq.rfl])) | ((with_reducible apply AP.k_nil); first | (refine AP.nil (hQ' _ ?_); clear hQ' Q') | refine AP.nil ?_) | ((with_reducible apply CP.k_reg); refine cp_regG fun Q' hQ' => ?_) | refine CP.W ?_ | refine cp_cond rfl (fun hc => ?_) (fun hc => ?_) | (simp only [List.append_eq, List.cons_append, List.nil_append]))
    · (refine RetQ.B [] ?_; (try dsimp only [resV, List.getD_cons_succ, List.getD_cons_zero]); ((have h : gA 0 l = true := by (simp only [List.length_map, hw1, hw2] at hg; simp at hg; rw [he, if_pos (by omega)])); exact ⟨by rw [h], rfl⟩))
    · (refine RetQ.B [] ?_; (try dsimp only [resV, List.getD_cons_succ, List.getD_cons_zero]); ((have h : gA 0 l = true := by (simp at hc; rw [he, if_pos (by omega)])); exact ⟨by rw [h], rfl⟩))
    · simp only [List.length_map, hw1, hw2] at hg
      simp at hg hc
      simp only [List.length_map, hw1, hw2, hw]
      refine ⟨l.length - (k + 1), ⟨tm 34 [(0, rs l), (2, B false), (3, I (n + l[k].entry.body.length + 50 : Nat)), (4, I (k + 1 : Nat))], []⟩, by omega, (by simp only [tm, List.foldl_cons, List.foldl_nil, List.replicate_succ, List.replicate_zero, List.set_cons_succ, List.set_cons_zero, Nat.reduceAdd]; (refine ⟨?_, ?_⟩ <;> (try dsimp only) <;> (repeat' (first | exact Wk.nil | exact WkB.nil | apply Wk.same | apply Wk.de | apply Wk.nl | apply WkB.same | apply WkB.drop)))), k + 1, n + l[k].entry.body.length + 50, by omega, rfl, by omega, ?_, rfl⟩
      rw [he, if_neg (by omega)]
    · exfalso; simp at *; omega
  · have hk' : k = l.length := by omega
    subst hk'
    rw [List.drop_length] at he
    repeat' (first | ((first | ((with_reducible apply AP.k_any); first | refine AP.S ?_ | refine AP.E ?_ | (refine AP.Y ?_; dsimp only) | refine AP.G (fun hg => ?_) (fun hg => ?_))) <;> (try simp only [nx, Nat.reduceAdd, Nat.reduceSub, BEq.rfl])) | ((with_reducible apply AP.k_nil); first | (refine AP.nil (hQ' _ ?_); clear hQ' Q') | refine AP.nil ?_) | ((with_reducible apply CP.k_reg); refine cp_regG fun Q' hQ' => ?_) | refine CP.W ?_ | refine cp_cond rfl (fun hc => ?_) (fun hc => ?_) | (simp only [List.append_eq, List.cons_append, List.nil_append]))
    all_goals first
      | (exfalso; simp at *; done)
      | (exfalso; simp at *; omega)
      | (refine RetQ.B [] ?_; (try dsimp only [resV, List.getD_cons_succ, List.getD_cons_zero]); (exact ⟨by rw [he]; rfl, rfl⟩))
end Go.Proofs.Ytkkabbdmfepbiaa

namespace Go.Proofs.Ytkkabbdmfepbiaa
set_option linter.unusedVariables false
set_option linter.unusedSimpArgs false
set_option maxHeartbeats 8000000
open Go.RowKit
set_option maxRecDepth 100000
theorem lNext_ok {M N : Nat} {x : Life} {r : Record} (h1 : x.book.cfg.members.length ≤ M) (h2 : ∀ e ∈ x.log, e.body.length ≤ N) (h3 : r.book.cfg.members.length ≤ M) (h4 : r.entry.body.length ≤ N) : (lNext x r).book.cfg.members.length ≤ M ∧ ∀ e ∈ (lNext x r).log, e.body.length ≤ N := by
  unfold lNext
  split
  · refine ⟨h3, fun e he => ?_⟩
    simp only [lBook] at he
    split at he
    · cases he
    · exact h2 e he
  · split
    · unfold lEntry
      split
      · refine ⟨h1, fun e he => ?_⟩
        rcases List.mem_append.1 he with he | he
        · exact h2 e he
        · simp at he; subst he; exact h4
      · exact ⟨h1, h2⟩
    · split
      · exact ⟨h1, h2⟩
      · split <;> exact ⟨h1, h2⟩
theorem lFold_ok {M N : Nat} : ∀ {l : List Record} {x : Life}, x.book.cfg.members.length ≤ M → (∀ e ∈ x.log, e.body.length ≤ N) → (∀ r ∈ l, r.book.cfg.members.length ≤ M ∧ r.entry.body.length ≤ N) → (l.foldl lNext x).book.cfg.members.length ≤ M ∧ ∀ e ∈ (l.foldl lNext x).log, e.body.length ≤ N
  | [], _, h1, h2, _ => ⟨h1, h2⟩
  | r :: l, x, h1, h2, h3 => by
    have h4 := h3 r (by simp)
    have h5 := lNext_ok h1 h2 h4.1 h4.2
    have h6 := lFold_ok (l := l) (x := lNext x r) h5.1 h5.2 fun r hr => h3 r (by simp [hr])
    simpa only [List.foldl_cons] using h6
theorem lLives_ok {M N : Nat} {l : List Record} (h : ∀ r ∈ l, r.book.cfg.members.length ≤ M ∧ r.entry.body.length ≤ N) : (lLives l).book.cfg.members.length ≤ M ∧ ∀ e ∈ (lLives l).log, e.body.length ≤ N :=
  lFold_ok (by simp [lZero]) (by simp [lZero]) h
end Go.Proofs.Ytkkabbdmfepbiaa

namespace Go.Proofs.Ytkkabbdmfepbiaa
set_option linter.unusedVariables false
set_option linter.unusedSimpArgs false
open Go.RowKit
def mixR {α : Type} (f g : α → List AV) (l : List α) (k : Nat) : List (List AV) := (l.take k).map f ++ (l.drop k).map g
theorem mixR_len {α : Type} (f g : α → List AV) (l : List α) (k : Nat) : (mixR f g l k).length = l.length := by
  unfold mixR
  rw [List.length_append, List.length_map, List.length_map, List.length_take, List.length_drop]
  omega
theorem mixR_at {α : Type} (f g : α → List AV) (l : List α) {k : Nat} (h : k < l.length) : (mixR f g l k)[k]? = some (g l[k]) := by
  unfold mixR
  rw [List.getElem?_append_right (by simp; omega)]
  simp only [List.length_map, List.length_take, List.getElem?_map, List.getElem?_drop]
  rw [show k + (k - min k l.length) = k by omega, List.getElem?_eq_getElem h]; rfl
theorem mixR_set {α : Type} (f g : α → List AV) (l : List α) {k : Nat} (h : k < l.length) : (mixR f g l k).set k (f l[k]) = mixR f g l (k + 1) := by
  unfold mixR
  rw [List.drop_eq_getElem_cons h, List.take_succ_eq_append_getElem h, List.map_append, List.map_cons, List.set_append_right _ _ (by simp; omega)]
  simp only [List.length_map, List.length_take]
  rw [show k - min k l.length = 0 by omega]
  simp
theorem mixR_all {α : Type} (f g : α → List AV) (l : List α) : mixR f g l l.length = l.map f := by simp [mixR]
end Go.Proofs.Ytkkabbdmfepbiaa

namespace Go.Proofs.Ytkkabbdmfepbiaa
set_option linter.unusedVariables false
set_option linter.unusedSimpArgs false
set_option maxHeartbeats 8000000
open Go.RowKit
set_option maxRecDepth 100000
theorem incU8 (x : UInt8) : IntKind.u8.wrap ((x.toNat : Int) + 1) = (((x + 1 : UInt8).toNat : Nat) : Int) := by
  simp only [IntKind.wrap, IntKind.bits, IntKind.signed, UInt8.toNat_add]; simp
abbrev eB1 (c : UInt8) : List AV := eB (c + 1)
abbrev yE (e : Entry) : List AV := [I e.pos, I (-9), I e.client, I e.id, .sl (some tU) 1 (e.body.map eB1)]
abbrev eM9 (m : Member) : List AV := [I 99, I m.since, B m.whole]
def greatR (r : Record) : Bool := decide (50 < r.book.cfg.members.length) || decide (3000 < r.entry.body.length)
theorem greatR_ac (r : Record) : AC Try.prog 5 [.ag (eR r)] [] (fun v bs => v = B (greatR r) ∧ bs = []) := by
  unfold greatR
  by_cases h1 : 50 < r.book.cfg.members.length
  · have d1 : decide ((50 : Int) < (r.book.cfg.members.length : Int)) = true := by simp; omega
    rw [decide_eq_true h1]
    refine AC.N Try.func5 Try.ntmps5 ?_
    intro X hρ hmks
    simp only [nx, Nat.reduceAdd, Nat.reduceSub, BEq.rfl]
    repeat' (first | ((first | ((with_reducible apply AP.k_any); first | refine AP.ST ?_ | (refine AP.Y ?_; dsimp only) | refine AP.G (fun hg => ?_) (fun hg => ?_) | (refine AP.V (fun c hnil => ?_); simp only [nz])  | refine AP.PF ?_)) <;> (try simp only [d1, List.length_map, nx, mx, rn, fq, Nat.mul_one, Bool.and_true, Bool.and_false, Nat.reduceBEq, Nat.reduceAdd, Nat.reduceSub, BEq.rfl])) | ((with_reducible apply AP.k_nil); first | (refine AP.nil (hQ' _ ?_); clear hQ' Q') | refine AP.nil ?_) | ((with_reducible apply CP.k_reg); refine cp_regG fun Q' hQ' => ?_) | refine CP.W ?_ | refine cp_cond rfl (fun hc => ?_) (fun hc => ?_) | (simp only [List.append_eq, List.cons_append, List.nil_append]))
    (exact RetQ.A [] (by exact ⟨rfl, rfl⟩))
  · have d1 : decide ((50 : Int) < (r.book.cfg.members.length : Int)) = false := by simp; omega
    rw [decide_eq_false h1]
    by_cases h2 : 3000 < r.entry.body.length
    · have d2 : decide ((3000 : Int) < (r.entry.body.length : Int)) = true := by simp; omega
      rw [decide_eq_true h2]
      refine AC.N Try.func5 Try.ntmps5 ?_
      intro X hρ hmks
      simp only [nx, Nat.reduceAdd, Nat.reduceSub, BEq.rfl]
      repeat' (first | ((first | ((with_reducible apply AP.k_any); first | refine AP.ST ?_ | (refine AP.Y ?_; dsimp only) | refine AP.G (fun hg => ?_) (fun hg => ?_) | (refine AP.V (fun c hnil => ?_); simp only [nz])  | refine AP.PF ?_)) <;> (try simp only [d1, d2, List.length_map, nx, mx, rn, fq, Nat.mul_one, Bool.and_true, Bool.and_false, Nat.reduceBEq, Nat.reduceAdd, Nat.reduceSub, BEq.rfl])) | ((with_reducible apply AP.k_nil); first | (refine AP.nil (hQ' _ ?_); clear hQ' Q') | refine AP.nil ?_) | ((with_reducible apply CP.k_reg); refine cp_regG fun Q' hQ' => ?_) | refine CP.W ?_ | refine cp_cond rfl (fun hc => ?_) (fun hc => ?_) | (simp only [List.append_eq, List.cons_append, List.nil_append]))
      (exact RetQ.A [] (by exact ⟨rfl, rfl⟩))
    · have d2 : decide ((3000 : Int) < (r.entry.body.length : Int)) = false := by simp; omega
      rw [decide_eq_false h2]
      refine AC.N Try.func5 Try.ntmps5 ?_
      intro X hρ hmks
      simp only [nx, Nat.reduceAdd, Nat.reduceSub, BEq.rfl]
      repeat' (first | ((first | ((with_reducible apply AP.k_any); first | refine AP.ST ?_ | (refine AP.Y ?_; dsimp only) | refine AP.G (fun hg => ?_) (fun hg => ?_) | (refine AP.V (fun c hnil => ?_); simp only [nz])  | refine AP.PF ?_)) <;> (try simp only [d1, d2, List.length_map, nx, mx, rn, fq, Nat.mul_one, Bool.and_true, Bool.and_false, Nat.reduceBEq, Nat.reduceAdd, Nat.reduceSub, BEq.rfl])) | ((with_reducible apply AP.k_nil); first | (refine AP.nil (hQ' _ ?_); clear hQ' Q') | refine AP.nil ?_) | ((with_reducible apply CP.k_reg); refine cp_regG fun Q' hQ' => ?_) | refine CP.W ?_ | refine cp_cond rfl (fun hc => ?_) (fun hc => ?_) | (simp only [List.append_eq, List.cons_append, List.nil_append]))
      (exact RetQ.A [] (by exact ⟨rfl, rfl⟩))
theorem olives_big (l : List Record) (m : Record) (hl : l.length ≤ 100000000) (hb : ∀ r ∈ l, r.entry.body.length ≤ 100000000) (h : gA 0 l = true ∨ greatR m = true) : AC Try.prog 3 [rs l, .ag (eR m)] [] (fun v bs' => v = B true ∧ bs' = []) := by
  have h1 := greatAll_ac l hl hb
  have h2 := greatR_ac m
  cases hg : gA 0 l with
  | true =>
    rw [hg] at h1
    refine AC.N Try.func3 Try.ntmps3 ?_
    intro X hρ hmks
    simp only [nx, Nat.reduceAdd, Nat.reduceSub, BEq.rfl]
    repeat' (first | ((first | ((with_reducible apply AP.k_any); first | refine AP.ST ?_ | (refine AP.Y ?_; dsimp only) | refine AP.G (fun hg => ?_) (fun hg => ?_) | (refine AP.V (fun c hnil => ?_); simp only [nz])  | refine AP.PF ?_) | ((with_reducible apply DW.k_any); first | refine DW.ST ?_ | ((fail_if_success refine DW.known rfl ?_); refine DW.G (fun hg => ?_) (fun hg => ?_))) ) <;> (try simp only [ nx, mx, rn, fq, Nat.mul_one, Bool.and_true, Bool.and_false, Nat.reduceBEq, Nat.reduceAdd, Nat.reduceSub, BEq.rfl])) | ((with_reducible apply AP.k_nil); first | (refine AP.nil (hQ' _ ?_); clear hQ' Q') | refine AP.nil ?_) | ((with_reducible apply CP.k_drw); refine cp_drwX fun Q' hQ' => ?_) | ((with_reducible apply CP.k_drw1); refine cp_drawX ?_) | ((with_reducible apply DW.k_nil); refine DW.nl ?_; first | (refine hQ' _ ?_; clear hQ' Q') | skip) | ((with_reducible apply CP.k_reg); refine cp_regG fun Q' hQ' => ?_) | refine CP.W ?_ | refine cp_cond rfl (fun hc => ?_) (fun hc => ?_) | (simp only [List.append_eq, List.cons_append, List.nil_append]))
    (exact RetQ.A [] (by exact ⟨rfl, rfl⟩))
  | false =>
    rw [hg] at h1
    rw [h.resolve_left (by rw [hg]; simp)] at h2
    refine AC.N Try.func3 Try.ntmps3 ?_
    intro X hρ hmks
    simp only [nx, Nat.reduceAdd, Nat.reduceSub, BEq.rfl]
    repeat' (first | ((first | ((with_reducible apply AP.k_any); first | refine AP.ST ?_ | (refine AP.Y ?_; dsimp only) | refine AP.G (fun hg => ?_) (fun hg => ?_) | (refine AP.V (fun c hnil => ?_); simp only [nz])  | refine AP.PF ?_) | ((with_reducible apply DW.k_any); first | refine DW.ST ?_ | ((fail_if_success refine DW.known rfl ?_); refine DW.G (fun hg => ?_) (fun hg => ?_))) ) <;> (try simp only [ nx, mx, rn, fq, Nat.mul_one, Bool.and_true, Bool.and_false, Nat.reduceBEq, Nat.reduceAdd, Nat.reduceSub, BEq.rfl])) | ((with_reducible apply AP.k_nil); first | (refine AP.nil (hQ' _ ?_); clear hQ' Q') | refine AP.nil ?_) | ((with_reducible apply CP.k_drw); refine cp_drwX fun Q' hQ' => ?_) | ((with_reducible apply CP.k_drw1); refine cp_drawX ?_) | ((with_reducible apply DW.k_nil); refine DW.nl ?_; first | (refine hQ' _ ?_; clear hQ' Q') | skip) | ((with_reducible apply CP.k_reg); refine cp_regG fun Q' hQ' => ?_) | refine CP.W ?_ | refine cp_cond rfl (fun hc => ?_) (fun hc => ?_) | (simp only [List.append_eq, List.cons_append, List.nil_append]))
    (exact RetQ.A [] (by exact ⟨rfl, rfl⟩))
theorem olives (l : List Record) (m : Record) (hl : l.length ≤ 100000000) (hb : ∀ r ∈ l, r.entry.body.length ≤ 100000000) (hg : gA 0 l = false) (hm : greatR m = false) : AC Try.prog 3 [rs l, .ag (eR m)] [] (fun v bs' => v = B true ∧ bs' = []) := by
  have h1 := greatAll_ac l hl hb
  have h2 := greatR_ac m
  rw [hg] at h1
  rw [hm] at h2
  have hs := (gA_spec hg (by omega)).2
  have hn := (gA_spec hg (by omega)).1
  have hm1 : m.book.cfg.members.length ≤ 50 ∧ m.entry.body.length ≤ 3000 := by
    unfold greatR at hm
    simp at hm
    omega
  have hok := lLives_ok (l := l) (M := 50) (N := 4000) hs
  have hll := lLives_len l
  have k1 := lives_ac l hl fun r hr => ⟨Nat.le_trans (hs r hr).1 (by omega), hb r hr⟩
  have k2 := dlives_ac l hl fun r hr => ⟨Nat.le_trans (hs r hr).1 (by omega), hb r hr⟩
  generalize lLives l = x at *
  have k3 := live_ac x m (by omega) (by omega) (fun e he => Nat.le_trans (hok.2 e he) (by omega)) (by omega) (by omega)
  have k4 := dlive_ac x m (by omega) (by omega) (fun e he => Nat.le_trans (hok.2 e he) (by omega)) (by omega) (by omega)
  have hok2 := lNext_ok (M := 50) (N := 4000) hok.1 hok.2 hm1.1 (show m.entry.body.length ≤ 4000 by omega)
  have hl2 := lNext_len x m
  generalize lNext x m = y at *
  have k5 := sameLife_ac x x (by omega) (by omega) fun e he => Nat.le_trans (hok.2 e he) (by omega)
  have k6 := sameLife_ac y y (by omega) (by omega) fun e he => Nat.le_trans (hok2.2 e he) (by omega)
  rw [eqLf_iff.2 rfl] at k5 k6
  obtain ⟨⟨⟨ep, M⟩, si, wh, up⟩, bo, L⟩ := y
  dsimp only at hok2 hl2 k3 k4 k6
  refine AC.N Try.func3 Try.ntmps3 ?_
  intro X hρ hmks
  simp only [nx, Nat.reduceAdd, Nat.reduceSub, BEq.rfl]
  refine CP.gh gh_slot ?_; simp only [nx, Nat.reduceAdd, Nat.reduceSub, BEq.rfl]
  refine CP.gh gh_slot ?_; simp only [nx, Nat.reduceAdd, Nat.reduceSub, BEq.rfl]
  refine CP.gh gh_slot ?_; simp only [nx, Nat.reduceAdd, Nat.reduceSub, BEq.rfl]
  refine CP.gh gh_slot ?_; simp only [nx, Nat.reduceAdd, Nat.reduceSub, BEq.rfl]
  refine CP.gh gh_slot ?_; simp only [nx, Nat.reduceAdd, Nat.reduceSub, BEq.rfl]
  refine CP.gh gh_slot ?_; simp only [nx, Nat.reduceAdd, Nat.reduceSub, BEq.rfl]
  refine CP.gh gh_slot ?_; simp only [nx, Nat.reduceAdd, Nat.reduceSub, BEq.rfl]
  refine CP.gh gh_slot ?_; simp only [nx, Nat.reduceAdd, Nat.reduceSub, BEq.rfl]
  refine CP.gh gh_slot ?_; simp only [nx, Nat.reduceAdd, Nat.reduceSub, BEq.rfl]
  refine CP.gh gh_slot ?_; simp only [nx, Nat.reduceAdd, Nat.reduceSub, BEq.rfl]
  refine CP.gh gh_slot ?_; simp only [nx, Nat.reduceAdd, Nat.reduceSub, BEq.rfl]
  refine CP.gh gh_slot ?_; simp only [nx, Nat.reduceAdd, Nat.reduceSub, BEq.rfl]
  refine CP.gh gh_slot ?_; simp only [nx, Nat.reduceAdd, Nat.reduceSub, BEq.rfl]
  refine CP.gh gh_slot ?_; simp only [nx, Nat.reduceAdd, Nat.reduceSub, BEq.rfl]
  refine CP.gh gh_slot ?_; simp only [nx, Nat.reduceAdd, Nat.reduceSub, BEq.rfl]
  repeat' (first | ((first | ((with_reducible apply AP.k_any); first | refine AP.ST ?_ | (refine AP.Y ?_; dsimp only) | refine AP.G (fun hg => ?_) (fun hg => ?_) | (refine AP.V (fun c hnil => ?_); simp only [nz]) | ((with_reducible apply AP.k_any); refine AP.CQ (k5) ?_) | ((with_reducible apply AP.k_any); refine AP.CQ (k6) ?_) | refine AP.PF ?_) | ((with_reducible apply DW.k_any); first | refine DW.ST ?_ | ((fail_if_success refine DW.known rfl ?_); refine DW.G (fun hg => ?_) (fun hg => ?_))) | ((with_reducible apply DW.k_any); first | refine DW.R ?_ | refine DW.R' ?_ | refine DW.W ?_ | refine DW.W' ?_ | (refine DW.known rfl ?_; (with_reducible first | apply DW.sx 2 | apply DW.sxN 2); (iterate 2 (focus (simp only [ft, nm, Nat.reduceAdd, Nat.reduceBEq, List.getElem?_cons_zero, List.getElem?_cons_succ]; exact rfl))); (focus (intro X V; simp only [ft, nm, Nat.reduceAdd, Nat.reduceBEq]; (try (refine AP.Y ?_; dsimp only)); (first | ((with_reducible apply AP.k_any); refine AP.CQ (k5) ?_) | ((with_reducible apply AP.k_any); refine AP.CQ (k6) ?_) | fail); (try simp only [nx, Nat.reduceAdd, Nat.reduceSub, BEq.rfl]); refine AP.nil ?_; (first | refine ⟨trivial, rfl, ?_⟩ | refine ⟨rfl, rfl, ?_⟩); (repeat' (first | exact Mg.nil | apply Mg.keep rfl | apply Mg.take rfl)); done)); (focus (refine Exists.intro (fun _ => 0) ?_; apply Exists.intro; (repeat' (first | exact Mg.nil | apply Mg.keep rfl | apply Mg.take rfl)); done)); (iterate 2 (focus (exact rfl)))) | ((fail_if_success refine DW.known rfl ?_); refine DW.G (fun hg => ?_) (fun hg => ?_)))) <;> (try simp only [List.length_map, nx, mx, rn, fq, Nat.mul_one, Bool.and_true, Bool.and_false, Nat.reduceBEq, Nat.reduceAdd, Nat.reduceSub, BEq.rfl])) | ((with_reducible apply AP.k_nil); first | (refine AP.nil (hQ' _ ?_); clear hQ' Q') | refine AP.nil ?_) | ((with_reducible apply CP.k_drw); refine cp_drwX fun Q' hQ' => ?_) | ((with_reducible apply CP.k_drw1); refine cp_drawX ?_) | ((with_reducible apply DW.k_nil); refine DW.nl ?_; first | (refine hQ' _ ?_; clear hQ' Q') | skip) | ((with_reducible apply CP.k_reg); refine cp_regG fun Q' hQ' => ?_) | refine CP.W ?_ | refine cp_cond rfl (fun hc => ?_) (fun hc => ?_) | (simp only [List.append_eq, List.cons_append, List.nil_append]))
  refine cp_loopS [8, 9, 40, 41, 42, 43, 44, 45, 46, 47, 48, 49, 50, 51, 52, 53, 54, 55, 56, 57, 58, 59, 60, 61, 62, 63, 64, 65, 66, 67, 68, 69, 70, 71, 72, 73] (fun a : Nat × Nat => L.length - a.1) (fun a => a.1 ≤ L.length) (fun a => [(8, I a.1)]) (fun a => [(8, ⟨1, .r tE 5 (mixR yE (eE (some tU)) L a.1)⟩), (12, ⟨a.2, .x⟩)]) (0, 0) (Nat.zero_le _) (by exact Gh.W) ?_
  rintro ⟨i, v⟩ hi
  simp only [setT, deT, setB, List.set_cons_succ, List.set_cons_zero]
  dsimp only at hi
  by_cases hlt : i < L.length
  · have q1 : decide ((i : Int) < (L.length : Int)) = true := by simp; omega
    have q2 : IntKind.i64.wrap ((i : Int) + 1) = ((i + 1 : Nat) : Int) := wrap_i64 (by omega) (by omega)
    have hr := mixR_at yE (eE (some tU)) L hlt
    have hst := mixR_set yE (eE (some tU)) L hlt
    have hln := mixR_len yE (eE (some tU)) L i
    have hbe := hok2.2 L[i] (List.getElem_mem hlt)
    generalize L[i] = e at *
    obtain ⟨p0, p1, p2, p3, body⟩ := e
    dsimp only [eE] at hr hst hbe
    have hc : ((mixR yE (eE (some tU)) L i).set i [I p0, I (-9), I p2, I p3, .sl (some tU) 1 (body.map eB)])[i]? = some [I p0, I (-9), I p2, I p3, .sl (some tU) 1 (body.map eB)] := List.getElem?_set_self (by rw [hln]; exact hlt)
    have hs2 : ((mixR yE (eE (some tU)) L i).set i [I p0, I (-9), I p2, I p3, .sl (some tU) 1 (body.map eB)]).set i [I p0, I (-9), I p2, I p3, .sl (some tU) 1 (body.map eB1)] = mixR yE (eE (some tU)) L (i + 1) := by rw [List.set_set]; exact hst
    have hl3 : ((mixR yE (eE (some tU)) L i).set i [I p0, I (-9), I p2, I p3, .sl (some tU) 1 (body.map eB)]).length = L.length := by rw [List.length_set, hln]
    repeat' (first | ((first | ((with_reducible apply AP.k_any); first | refine AP.ST ?_ | (refine AP.Y ?_; dsimp only) | refine AP.G (fun hg => ?_) (fun hg => ?_) | (refine AP.V (fun c hnil => ?_); simp only [nz]) | ((with_reducible apply AP.k_any); refine AP.CQ (k5) ?_) | ((with_reducible apply AP.k_any); refine AP.CQ (k6) ?_) | refine AP.PF ?_) | ((with_reducible apply DW.k_any); first | refine DW.ST ?_ | ((fail_if_success refine DW.known rfl ?_); refine DW.G (fun hg => ?_) (fun hg => ?_))) | ((with_reducible apply DW.k_any); first | refine DW.R ?_ | refine DW.R' ?_ | refine DW.W ?_ | refine DW.W' ?_ | (refine DW.known rfl ?_; (with_reducible first | apply DW.sx 2 | apply DW.sxN 2); (iterate 2 (focus (simp only [ft, nm, Nat.reduceAdd, Nat.reduceBEq, List.getElem?_cons_zero, List.getElem?_cons_succ]; exact rfl))); (focus (intro X V; simp only [ft, nm, Nat.reduceAdd, Nat.reduceBEq]; (try (refine AP.Y ?_; dsimp only)); (first | ((with_reducible apply AP.k_any); refine AP.CQ (k5) ?_) | ((with_reducible apply AP.k_any); refine AP.CQ (k6) ?_) | fail); (try simp only [nx, Nat.reduceAdd, Nat.reduceSub, BEq.rfl]); refine AP.nil ?_; (first | refine ⟨trivial, rfl, ?_⟩ | refine ⟨rfl, rfl, ?_⟩); (repeat' (first | exact Mg.nil | apply Mg.keep rfl | apply Mg.take rfl)); done)); (focus (refine Exists.intro (fun _ => 0) ?_; apply Exists.intro; (repeat' (first | exact Mg.nil | apply Mg.keep rfl | apply Mg.take rfl)); done)); (iterate 2 (focus (exact rfl)))) | ((fail_if_success refine DW.known rfl ?_); refine DW.G (fun hg => ?_) (fun hg => ?_)))) <;> (try simp only [q1, hln, nx, mx, rn, fq, Nat.mul_one, Bool.and_true, Bool.and_false, Nat.reduceBEq, Nat.reduceAdd, Nat.reduceSub, BEq.rfl])) | ((with_reducible apply AP.k_nil); first | (refine AP.nil (hQ' _ ?_); clear hQ' Q') | refine AP.nil ?_) | ((with_reducible apply CP.k_drw); refine cp_drwX fun Q' hQ' => ?_) | ((with_reducible apply CP.k_drw1); refine cp_drawX ?_) | ((with_reducible apply DW.k_nil); refine DW.nl ?_; first | (refine hQ' _ ?_; clear hQ' Q') | skip) | ((with_reducible apply CP.k_reg); refine cp_regG fun Q' hQ' => ?_) | refine CP.W ?_ | refine cp_cond rfl (fun hc => ?_) (fun hc => ?_) | (simp only [List.append_eq, List.cons_append, List.nil_append]))
    refine CP.gh (gh_open (j := 8) (n := i) rfl hc rfl rfl) ?_
    simp only [opnC, opnA, nx, Nat.reduceAdd, Nat.reduceSub, BEq.rfl]
    refine cp_loopS [9, 52, 53, 54, 55, 56, 57, 58, 59, 60, 61, 62, 63, 64, 65, 66, 67, 68, 69, 70, 71, 72, 73] (fun j : Nat => body.length - j) (fun j => j ≤ body.length) (fun j => [(9, I j)]) (fun j => [(12, ⟨v + 1, .r tU 1 (mixR eB1 eB body j)⟩)]) 0 (Nat.zero_le _) (by exact Gh.W) ?_
    intro j hj
    simp only [setT, deT, setB, List.set_cons_succ, List.set_cons_zero]
    by_cases hjl : j < body.length
    · have r1 : decide ((j : Int) < (body.length : Int)) = true := by simp; omega
      have r2 : IntKind.i64.wrap ((j : Int) + 1) = ((j + 1 : Nat) : Int) := wrap_i64 (by omega) (by omega)
      have hbr := mixR_at eB1 eB body hjl
      have hbs := mixR_set eB1 eB body hjl
      have hbl := mixR_len eB1 eB body j
      have hu := incU8 body[j]
      generalize body[j] = c at *
      repeat' (first | ((first | ((with_reducible apply AP.k_any); first | refine AP.ST ?_ | (refine AP.Y ?_; dsimp only) | refine AP.G (fun hg => ?_) (fun hg => ?_) | (refine AP.V (fun c hnil => ?_); simp only [nz]) | ((with_reducible apply AP.k_any); refine AP.CQ (k5) ?_) | ((with_reducible apply AP.k_any); refine AP.CQ (k6) ?_) | refine AP.PF ?_) | ((with_reducible apply DW.k_any); first | refine DW.ST ?_ | ((fail_if_success refine DW.known rfl ?_); refine DW.G (fun hg => ?_) (fun hg => ?_))) | ((with_reducible apply DW.k_any); first | refine DW.R ?_ | refine DW.R' ?_ | refine DW.W ?_ | refine DW.W' ?_ | (refine DW.known rfl ?_; (with_reducible first | apply DW.sx 2 | apply DW.sxN 2); (iterate 2 (focus (simp only [ft, nm, Nat.reduceAdd, Nat.reduceBEq, List.getElem?_cons_zero, List.getElem?_cons_succ]; exact rfl))); (focus (intro X V; simp only [ft, nm, Nat.reduceAdd, Nat.reduceBEq]; (try (refine AP.Y ?_; dsimp only)); (first | ((with_reducible apply AP.k_any); refine AP.CQ (k5) ?_) | ((with_reducible apply AP.k_any); refine AP.CQ (k6) ?_) | fail); (try simp only [nx, Nat.reduceAdd, Nat.reduceSub, BEq.rfl]); refine AP.nil ?_; (first | refine ⟨trivial, rfl, ?_⟩ | refine ⟨rfl, rfl, ?_⟩); (repeat' (first | exact Mg.nil | apply Mg.keep rfl | apply Mg.take rfl)); done)); (focus (refine Exists.intro (fun _ => 0) ?_; apply Exists.intro; (repeat' (first | exact Mg.nil | apply Mg.keep rfl | apply Mg.take rfl)); done)); (iterate 2 (focus (exact rfl)))) | ((fail_if_success refine DW.known rfl ?_); refine DW.G (fun hg => ?_) (fun hg => ?_)))) <;> (try simp only [r1, r2, hbl, hl3, hu, nx, mx, rn, fq, Nat.mul_one, Bool.and_true, Bool.and_false, Nat.reduceBEq, Nat.reduceAdd, Nat.reduceSub, BEq.rfl])) | ((with_reducible apply AP.k_nil); first | (refine AP.nil (hQ' _ ?_); clear hQ' Q') | refine AP.nil ?_) | ((with_reducible apply CP.k_drw); refine cp_drwX fun Q' hQ' => ?_) | ((with_reducible apply CP.k_drw1); refine cp_drawX ?_) | ((with_reducible apply DW.k_nil); refine DW.nl ?_; first | (refine hQ' _ ?_; clear hQ' Q') | skip) | ((with_reducible apply CP.k_reg); refine cp_regG fun Q' hQ' => ?_) | refine CP.W ?_ | refine cp_cond rfl (fun hc => ?_) (fun hc => ?_) | (simp only [List.append_eq, List.cons_append, List.nil_append]))
      refine ⟨j + 1, by omega, by omega, ?_⟩
      rw [← hbs]
      exact Gh.W
    · obtain rfl : j = body.length := by omega
      have r1 : decide ((body.length : Int) < (body.length : Int)) = false := by simp
      have hbl := mixR_len eB1 eB body body.length
      have hba := mixR_all eB1 eB body
      repeat' (first | ((first | ((with_reducible apply AP.k_any); first | refine AP.ST ?_ | (refine AP.Y ?_; dsimp only) | refine AP.G (fun hg => ?_) (fun hg => ?_) | (refine AP.V (fun c hnil => ?_); simp only [nz]) | ((with_reducible apply AP.k_any); refine AP.CQ (k5) ?_) | ((with_reducible apply AP.k_any); refine AP.CQ (k6) ?_) | refine AP.PF ?_) | ((with_reducible apply DW.k_any); first | refine DW.ST ?_ | ((fail_if_success refine DW.known rfl ?_); refine DW.G (fun hg => ?_) (fun hg => ?_))) | ((with_reducible apply DW.k_any); first | refine DW.R ?_ | refine DW.R' ?_ | refine DW.W ?_ | refine DW.W' ?_ | (refine DW.known rfl ?_; (with_reducible first | apply DW.sx 2 | apply DW.sxN 2); (iterate 2 (focus (simp only [ft, nm, Nat.reduceAdd, Nat.reduceBEq, List.getElem?_cons_zero, List.getElem?_cons_succ]; exact rfl))); (focus (intro X V; simp only [ft, nm, Nat.reduceAdd, Nat.reduceBEq]; (try (refine AP.Y ?_; dsimp only)); (first | ((with_reducible apply AP.k_any); refine AP.CQ (k5) ?_) | ((with_reducible apply AP.k_any); refine AP.CQ (k6) ?_) | fail); (try simp only [nx, Nat.reduceAdd, Nat.reduceSub, BEq.rfl]); refine AP.nil ?_; (first | refine ⟨trivial, rfl, ?_⟩ | refine ⟨rfl, rfl, ?_⟩); (repeat' (first | exact Mg.nil | apply Mg.keep rfl | apply Mg.take rfl)); done)); (focus (refine Exists.intro (fun _ => 0) ?_; apply Exists.intro; (repeat' (first | exact Mg.nil | apply Mg.keep rfl | apply Mg.take rfl)); done)); (iterate 2 (focus (exact rfl)))) | ((fail_if_success refine DW.known rfl ?_); refine DW.G (fun hg => ?_) (fun hg => ?_)))) <;> (try simp only [r1, q2, hbl, hl3, nx, mx, rn, fq, Nat.mul_one, Bool.and_true, Bool.and_false, Nat.reduceBEq, Nat.reduceAdd, Nat.reduceSub, BEq.rfl])) | ((with_reducible apply AP.k_nil); first | (refine AP.nil (hQ' _ ?_); clear hQ' Q') | refine AP.nil ?_) | ((with_reducible apply CP.k_drw); refine cp_drwX fun Q' hQ' => ?_) | ((with_reducible apply CP.k_drw1); refine cp_drawX ?_) | ((with_reducible apply DW.k_nil); refine DW.nl ?_; first | (refine hQ' _ ?_; clear hQ' Q') | skip) | ((with_reducible apply CP.k_reg); refine cp_regG fun Q' hQ' => ?_) | refine CP.W ?_ | refine cp_cond rfl (fun hc => ?_) (fun hc => ?_) | (simp only [List.append_eq, List.cons_append, List.nil_append]))
      refine ⟨(i + 1, v + 1), by (dsimp only; omega), by (dsimp only; omega), ?_⟩
      dsimp only
      rw [← hs2, ← hba]
      refine Gh.trans (gh_shutC (j := 8) (n := i) (by exact rfl) (by (repeat' (first | exact ClsC.nil | apply ClsC.leaf rfl | apply ClsC.hd rfl | apply ClsC.ob rfl | apply ClsC.mo rfl | apply ClsC.mp rfl | apply ClsC.hp rfl | apply ClsC.fn))) (by exact rfl)) ?_
      simp only [List.set_cons_succ, List.set_cons_zero]
      exact Gh.W
  · obtain rfl : i = L.length := by omega
    have q1 : decide ((L.length : Int) < (L.length : Int)) = false := by simp
    have hln := mixR_len yE (eE (some tU)) L L.length
    repeat' (first | ((first | ((with_reducible apply AP.k_any); first | refine AP.ST ?_ | (refine AP.Y ?_; dsimp only) | refine AP.G (fun hg => ?_) (fun hg => ?_) | (refine AP.V (fun c hnil => ?_); simp only [nz]) | ((with_reducible apply AP.k_any); refine AP.CQ (k5) ?_) | ((with_reducible apply AP.k_any); refine AP.CQ (k6) ?_) | refine AP.PF ?_) | ((with_reducible apply DW.k_any); first | refine DW.ST ?_ | ((fail_if_success refine DW.known rfl ?_); refine DW.G (fun hg => ?_) (fun hg => ?_))) | ((with_reducible apply DW.k_any); first | refine DW.R ?_ | refine DW.R' ?_ | refine DW.W ?_ | refine DW.W' ?_ | (refine DW.known rfl ?_; (with_reducible first | apply DW.sx 2 | apply DW.sxN 2); (iterate 2 (focus (simp only [ft, nm, Nat.reduceAdd, Nat.reduceBEq, List.getElem?_cons_zero, List.getElem?_cons_succ]; exact rfl))); (focus (intro X V; simp only [ft, nm, Nat.reduceAdd, Nat.reduceBEq]; (try (refine AP.Y ?_; dsimp only)); (first | ((with_reducible apply AP.k_any); refine AP.CQ (k5) ?_) | ((with_reducible apply AP.k_any); refine AP.CQ (k6) ?_) | fail); (try simp only [nx, Nat.reduceAdd, Nat.reduceSub, BEq.rfl]); refine AP.nil ?_; (first | refine ⟨trivial, rfl, ?_⟩ | refine ⟨rfl, rfl, ?_⟩); (repeat' (first | exact Mg.nil | apply Mg.keep rfl | apply Mg.take rfl)); done)); (focus (refine Exists.intro (fun _ => 0) ?_; apply Exists.intro; (repeat' (first | exact Mg.nil | apply Mg.keep rfl | apply Mg.take rfl)); done)); (iterate 2 (focus (exact rfl)))) | ((fail_if_success refine DW.known rfl ?_); refine DW.G (fun hg => ?_) (fun hg => ?_)))) <;> (try simp only [q1, hln, List.length_map, nx, mx, rn, fq, Nat.mul_one, Bool.and_true, Bool.and_false, Nat.reduceBEq, Nat.reduceAdd, Nat.reduceSub, BEq.rfl])) | ((with_reducible apply AP.k_nil); first | (refine AP.nil (hQ' _ ?_); clear hQ' Q') | refine AP.nil ?_) | ((with_reducible apply CP.k_drw); refine cp_drwX fun Q' hQ' => ?_) | ((with_reducible apply CP.k_drw1); refine cp_drawX ?_) | ((with_reducible apply DW.k_nil); refine DW.nl ?_; first | (refine hQ' _ ?_; clear hQ' Q') | skip) | ((with_reducible apply CP.k_reg); refine cp_regG fun Q' hQ' => ?_) | refine CP.W ?_ | refine cp_cond rfl (fun hc => ?_) (fun hc => ?_) | (simp only [List.append_eq, List.cons_append, List.nil_append]))
    refine cp_loopS [10, 74, 75, 76, 77, 78, 79, 80, 81, 82, 83, 84, 85, 86, 87, 88, 89] (fun a : Nat => M.length - a) (fun a => a ≤ M.length) (fun a => [(10, I a)]) (fun a => [(7, ⟨1, .r tM 3 (mixR eM9 eM M a)⟩)]) 0 (Nat.zero_le _) (by exact Gh.W) ?_
    intro k hk
    simp only [setT, deT, setB, List.set_cons_succ, List.set_cons_zero]
    by_cases hkl : k < M.length
    · have r1 : decide ((k : Int) < (M.length : Int)) = true := by simp; omega
      have r2 : IntKind.i64.wrap ((k : Int) + 1) = ((k + 1 : Nat) : Int) := wrap_i64 (by omega) (by omega)
      have hmr := mixR_at eM9 eM M hkl
      have hms := mixR_set eM9 eM M hkl
      have hml := mixR_len eM9 eM M k
      generalize M[k] = c at *
      obtain ⟨n0, n1, n2⟩ := c
      dsimp only [eM] at hmr hms
      repeat' (first | ((first | ((with_reducible apply AP.k_any); first | refine AP.ST ?_ | (refine AP.Y ?_; dsimp only) | refine AP.G (fun hg => ?_) (fun hg => ?_) | (refine AP.V (fun c hnil => ?_); simp only [nz]) | ((with_reducible apply AP.k_any); refine AP.CQ (k5) ?_) | ((with_reducible apply AP.k_any); refine AP.CQ (k6) ?_) | refine AP.PF ?_) | ((with_reducible apply DW.k_any); first | refine DW.ST ?_ | ((fail_if_success refine DW.known rfl ?_); refine DW.G (fun hg => ?_) (fun hg => ?_))) | ((with_reducible apply DW.k_any); first | refine DW.R ?_ | refine DW.R' ?_ | refine DW.W ?_ | refine DW.W' ?_ | (refine DW.known rfl ?_; (with_reducible first | apply DW.sx 2 | apply DW.sxN 2); (iterate 2 (focus (simp only [ft, nm, Nat.reduceAdd, Nat.reduceBEq, List.getElem?_cons_zero, List.getElem?_cons_succ]; exact rfl))); (focus (intro X V; simp only [ft, nm, Nat.reduceAdd, Nat.reduceBEq]; (try (refine AP.Y ?_; dsimp only)); (first | ((with_reducible apply AP.k_any); refine AP.CQ (k5) ?_) | ((with_reducible apply AP.k_any); refine AP.CQ (k6) ?_) | fail); (try simp only [nx, Nat.reduceAdd, Nat.reduceSub, BEq.rfl]); refine AP.nil ?_; (first | refine ⟨trivial, rfl, ?_⟩ | refine ⟨rfl, rfl, ?_⟩); (repeat' (first | exact Mg.nil | apply Mg.keep rfl | apply Mg.take rfl)); done)); (focus (refine Exists.intro (fun _ => 0) ?_; apply Exists.intro; (repeat' (first | exact Mg.nil | apply Mg.keep rfl | apply Mg.take rfl)); done)); (iterate 2 (focus (exact rfl)))) | ((fail_if_success refine DW.known rfl ?_); refine DW.G (fun hg => ?_) (fun hg => ?_)))) <;> (try simp only [r1, r2, hml, nx, mx, rn, fq, Nat.mul_one, Bool.and_true, Bool.and_false, Nat.reduceBEq, Nat.reduceAdd, Nat.reduceSub, BEq.rfl])) | ((with_reducible apply AP.k_nil); first | (refine AP.nil (hQ' _ ?_); clear hQ' Q') | refine AP.nil ?_) | ((with_reducible apply CP.k_drw); refine cp_drwX fun Q' hQ' => ?_) | ((with_reducible apply CP.k_drw1); refine cp_drawX ?_) | ((with_reducible apply DW.k_nil); refine DW.nl ?_; first | (refine hQ' _ ?_; clear hQ' Q') | skip) | ((with_reducible apply CP.k_reg); refine cp_regG fun Q' hQ' => ?_) | refine CP.W ?_ | refine cp_cond rfl (fun hc => ?_) (fun hc => ?_) | (simp only [List.append_eq, List.cons_append, List.nil_append]))
      refine ⟨k + 1, by omega, by omega, ?_⟩
      rw [← hms]
      exact Gh.W
    · obtain rfl : k = M.length := by omega
      have r1 : decide ((M.length : Int) < (M.length : Int)) = false := by simp
      have hml := mixR_len eM9 eM M M.length
      repeat' (first | ((first | ((with_reducible apply AP.k_any); first | refine AP.ST ?_ | (refine AP.Y ?_; dsimp only) | refine AP.G (fun hg => ?_) (fun hg => ?_) | (refine AP.V (fun c hnil => ?_); simp only [nz]) | ((with_reducible apply AP.k_any); refine AP.CQ (k5) ?_) | ((with_reducible apply AP.k_any); refine AP.CQ (k6) ?_) | refine AP.PF ?_) | ((with_reducible apply DW.k_any); first | refine DW.ST ?_ | ((fail_if_success refine DW.known rfl ?_); refine DW.G (fun hg => ?_) (fun hg => ?_))) | ((with_reducible apply DW.k_any); first | refine DW.R ?_ | refine DW.R' ?_ | refine DW.W ?_ | refine DW.W' ?_ | (refine DW.known rfl ?_; (with_reducible first | apply DW.sx 2 | apply DW.sxN 2); (iterate 2 (focus (simp only [ft, nm, Nat.reduceAdd, Nat.reduceBEq, List.getElem?_cons_zero, List.getElem?_cons_succ]; exact rfl))); (focus (intro X V; simp only [ft, nm, Nat.reduceAdd, Nat.reduceBEq]; (try (refine AP.Y ?_; dsimp only)); (first | ((with_reducible apply AP.k_any); refine AP.CQ (k5) ?_) | ((with_reducible apply AP.k_any); refine AP.CQ (k6) ?_) | fail); (try simp only [nx, Nat.reduceAdd, Nat.reduceSub, BEq.rfl]); refine AP.nil ?_; (first | refine ⟨trivial, rfl, ?_⟩ | refine ⟨rfl, rfl, ?_⟩); (repeat' (first | exact Mg.nil | apply Mg.keep rfl | apply Mg.take rfl)); done)); (focus (refine Exists.intro (fun _ => 0) ?_; apply Exists.intro; (repeat' (first | exact Mg.nil | apply Mg.keep rfl | apply Mg.take rfl)); done)); (iterate 2 (focus (exact rfl)))) | ((fail_if_success refine DW.known rfl ?_); refine DW.G (fun hg => ?_) (fun hg => ?_)))) <;> (try simp only [r1, hml, nx, mx, rn, fq, Nat.mul_one, Bool.and_true, Bool.and_false, Nat.reduceBEq, Nat.reduceAdd, Nat.reduceSub, BEq.rfl])) | ((with_reducible apply AP.k_nil); first | (refine AP.nil (hQ' _ ?_); clear hQ' Q') | refine AP.nil ?_) | ((with_reducible apply CP.k_drw); refine cp_drwX fun Q' hQ' => ?_) | ((with_reducible apply CP.k_drw1); refine cp_drawX ?_) | ((with_reducible apply DW.k_nil); refine DW.nl ?_; first | (refine hQ' _ ?_; clear hQ' Q') | skip) | ((with_reducible apply CP.k_reg); refine cp_regG fun Q' hQ' => ?_) | refine CP.W ?_ | refine cp_cond rfl (fun hc => ?_) (fun hc => ?_) | (simp only [List.append_eq, List.cons_append, List.nil_append]))
      (exact RetQ.A [] (by exact ⟨rfl, rfl⟩))
theorem olive (l : List Record) (m : Record) (hl : l.length ≤ 100000000) (hb : ∀ r ∈ l, r.entry.body.length ≤ 100000000) : AC Try.prog 3 [rs l, .ag (eR m)] [] (fun v bs' => v = B true ∧ bs' = []) := by
  by_cases h : gA 0 l = true ∨ greatR m = true
  · exact olives_big l m hl hb h
  · exact olives l m hl hb (by cases hx : gA 0 l <;> simp_all) (by cases hx : greatR m <;> simp_all)
end Go.Proofs.Ytkkabbdmfepbiaa

namespace Go.Proofs.Ytkkabbdmfepbiaa
set_option linter.unusedVariables false
set_option linter.unusedSimpArgs false
open Go.RowKit Go.ChangeShapes Go.WideShapes Go.ChangeAt Go.Deep
set_option maxRecDepth 100000
/-! bulk -/
theorem bulk_one {H : Type} (d : DataW H) : 1 ≤ Rows.uptoBulk d := by
  cases d with
  | lit l => cases l <;> simp [Rows.uptoBulk]
  | _ => simp [Rows.uptoBulk]
theorem bulk_part {H : Type} {d : DataW H} {l : List (DataW H)} (h : d ∈ l) : Rows.uptoBulk d ≤ Rows.uptoBulkAll l := by
  induction l with
  | nil => cases h
  | cons x r ih =>
    simp only [Rows.uptoBulkAll]
    cases List.mem_cons.1 h with
    | inl e => subst e; omega
    | inr e => have := ih e; omega
theorem bulk_length {H : Type} (l : List (DataW H)) : l.length ≤ Rows.uptoBulkAll l := by
  induction l with
  | nil => simp [Rows.uptoBulkAll]
  | cons x r ih => have := bulk_one x; simp only [Rows.uptoBulkAll, List.length_cons]; omega
/-- what reads as data of a type is k cells of my data; N: its bulk -/
def OA (P : Program) (t : TypeId) (k : Nat) {α : Type} (ok : Nat → α → Prop) (e : α → List AV) : Prop :=
  P.cellsOf t = k ∧ (∀ m n d, m ≤ n → ok m d → ok n d) ∧ ∀ {H : Type} {enc : TypeId × Value → H} {w : World} {base : Nat} {fuel : Nat} {cs : List Value} {x : DataW H × List MemPlace},
    DataW.trod enc P w base (fun _ => true) true fuel t cs = some x → ∃ d : α, ok (Rows.uptoBulk x.1) d ∧ (∀ φ κ, RC w φ κ (fun b => b < w.heap.size) (e d) cs Ct.z) ∧ (∀ u ∈ cs, u.oneCell' = true) ∧ (∀ a ∈ e d, a.leaf = true) ∧ cs.length = k
section
variable {P : Program} {t e : TypeId} {α β : Type} {ok : Nat → α → Prop} {k : Nat} {en : α → List AV}
theorem OA.map (h : OA P t k ok en) (f : α → β) {ok' : Nat → β → Prop} {en' : β → List AV} (hm : ∀ m n d, m ≤ n → ok' m d → ok' n d) (h1 : ∀ n a, ok n a → ok' n (f a)) (h2 : ∀ a, en' (f a) = en a) : OA P t k ok' en' :=
  ⟨h.1, hm, fun hx => by
    obtain ⟨d, a, b, c⟩ := h.2.2 hx
    exact ⟨f d, h1 _ _ a, by rw [h2]; exact b, by rw [h2]; exact c⟩⟩
theorem OA.wmap (h : OA P t k ok en) (f : α → β) {ok' : Nat → β → Prop} {en' : β → List AV} (hm : ∀ m n d, m ≤ n → ok' m d → ok' n d) (h1 : ∀ n a, ok n a → ok' n (f a)) (h2 : ∀ n a, ok n a → en' (f a) = en a) : OA P t k ok' en' :=
  ⟨h.1, hm, fun hx => by
    obtain ⟨d, a, b, c⟩ := h.2.2 hx
    exact ⟨f d, h1 _ _ a, by rw [h2 _ _ a]; exact b, by rw [h2 _ _ a]; exact c⟩⟩
theorem RC.one_ {w : World} {φ : Fi} {κ : Ka} {R : Nat → Prop} {a : AV} {v : Value} (h : RV w φ κ R a v Ct.z) : RC w φ κ R [a] [v] Ct.z := .cons (S := Ct.z) (T := Ct.z) h .nil fun _ => rfl
theorem oa_int {κ : IntKind} (ht : P.underlying t = some (.int κ)) (hc : P.cellsOf t = 1) : OA P t 1 (fun _ (n : Int) => (Lit.int κ n).wf = true) (fun n => [.sc (.int κ n)]) :=
  ⟨hc, fun _ _ _ _ h => h, fun h => by
    obtain ⟨n, rfl, _, hw⟩ := DataW.trod_int ht h
    exact ⟨n, hw, fun _ _ => RC.one_ (.sc rfl), fun u hu => by simp at hu; subst hu; rfl, fun a ha => by simp at ha; subst ha; rfl, rfl⟩⟩
theorem oa_bool (ht : P.underlying t = some .bool) (hc : P.cellsOf t = 1) : OA P t 1 (fun _ (_ : Bool) => True) (fun n => [.sc (.bool n)]) :=
  ⟨hc, fun _ _ _ _ h => h, fun h => by
    obtain ⟨n, rfl, _⟩ := DataW.trod_bool ht h
    exact ⟨n, trivial, fun _ _ => RC.one_ (.sc rfl), fun u hu => by simp at hu; subst hu; rfl, fun a ha => by simp at ha; subst ha; rfl, rfl⟩⟩
theorem RE.of_rows {w : World} {φ : Fi} {κ : Ka} {R : Nat → Prop} {k : Nat} {en : α → List AV} {l : List α} (css : Nat → List Value) (h : ∀ i x, l[i]? = some x → RC w φ κ R (en x) (css i) Ct.z ∧ (∀ u ∈ css i, u.oneCell' = true) ∧ (∀ a ∈ en x, a.leaf = true) ∧ (css i).length = k) :
    RE w φ κ R k (l.map en) ((List.range l.length).flatMap css) Ct.z := by
  induction l generalizing css with
  | nil => exact .nil
  | cons x l ih =>
    have h0 := h 0 x rfl
    have h1 := ih (fun i => css (i + 1)) fun i y hy => h (i + 1) y (by simpa using hy)
    rw [List.length_cons, List.range_succ_eq_map, List.flatMap_cons, List.flatMap_map]
    exact .cons (S := Ct.z) (T := Ct.z) h0.1 h0.2.2.2 ⟨h0.2.1, h0.2.2.1⟩ h1 fun _ => rfl
theorem flat_at {css : Nat → List Value} {k n : Nat} (h : ∀ i, i < n → (css i).length = k) : ∀ {j : Nat} {u : Value}, ((List.range n).flatMap css)[j]? = some u → ∃ i r, i < n ∧ j = i * k + r ∧ (css i)[r]? = some u := by
  induction n generalizing css with
  | zero => intro j u hj; simp at hj
  | succ n ih =>
    intro j u hj
    rw [List.range_succ_eq_map, List.flatMap_cons, List.flatMap_map] at hj
    have h0 := h 0 (by omega)
    by_cases hjk : j < k
    · rw [List.getElem?_append_left (by omega)] at hj
      exact ⟨0, j, by omega, by omega, hj⟩
    · rw [List.getElem?_append_right (by omega)] at hj
      obtain ⟨i, r, hi, hr, hu⟩ := ih (css := fun i => css (i + 1)) (fun i hi => h (i + 1) (by omega)) hj
      refine ⟨i + 1, r, by omega, ?_, hu⟩
      rw [Nat.add_mul]; omega
theorem spot_none {w : World} {a : Addr} {u : Value} (h : w.cell? (a.add 0) = some u) : a.spot = none := by
  obtain ⟨ab, ao, asp⟩ := a
  cases hsp : asp with
  | none => rfl
  | some s =>
    rw [hsp] at h
    simp [Addr.add, World.cell?] at h
    split at h <;> simp at h
theorem oa_slice (hk : 0 < k) (ht : P.underlying t = some (.slice e)) (hc : P.cellsOf t = 1) (hE : OA P e k ok en) : OA P t 1 (fun N (l : List α) => (∀ x ∈ l, ok N x) ∧ l.length < N) (fun l => [.sl none k (l.map en)]) := by
  refine ⟨hc, fun m n d h k => ⟨fun x hx => hE.2.1 _ _ _ h (k.1 x hx), Nat.lt_of_lt_of_le k.2 h⟩, ?_⟩
  intro H enc w base fuel cs x h
  rcases open_slice ht h with ⟨rfl, rfl⟩ | ⟨a, len, cap, m, n, D, Pl, rfl, hb, hl, hm, hmm, hx, hi⟩
  · exact ⟨[], ⟨fun x hx => by simp at hx, by simp [Rows.uptoBulk]⟩, fun _ _ => RC.one_ .ni, fun u hu => by simp at hu; subst hu; rfl, fun a ha => by simp at ha; subst ha; rfl, rfl⟩
  · obtain rfl : m = cap := by simpa using hmm
    clear hmm
    have hbulk : ∀ i, i < len → Rows.uptoBulk (D i) ≤ Rows.uptoBulk x.1 := by
      intro i hi
      rw [hx]
      have := bulk_part (d := D i) (l := (List.range len).map D) (List.mem_map.2 ⟨i, List.mem_range.2 hi, rfl⟩)
      simp only [Rows.uptoBulk]
      omega
    have hlenb : len < Rows.uptoBulk x.1 := by
      rw [hx]
      have := bulk_length ((List.range len).map D)
      simp only [Rows.uptoBulk]
      simp only [List.length_map, List.length_range] at this
      omega
    have hall : ∀ i, i < len → ∃ (d : α) (cs' : List Value), (ok (Rows.uptoBulk x.1) d ∧ (∀ φ κ, RC w φ κ (fun b => b < w.heap.size) (en d) cs' Ct.z) ∧ (∀ u ∈ cs', u.oneCell' = true) ∧ (∀ a ∈ en d, a.leaf = true) ∧ cs'.length = k) ∧ ∀ j u, cs'[j]? = some u → w.cell? ((a.add (i * k)).add j) = some u := by
      intro i hil
      obtain ⟨cs', hcs, htr⟩ := hi i (by omega)
      obtain ⟨d, hd0, hd⟩ := hE.2.2 htr
      rw [hE.1] at hcs
      obtain ⟨_, hlen, hat⟩ := World.cells?_some hcs
      exact ⟨d, cs', ⟨hE.2.1 _ _ _ (hbulk i hil) hd0, hd⟩, fun j u hu => (hat j (by have := (List.getElem?_eq_some_iff.1 hu).1; omega)).trans hu⟩
    have hsp0 : 0 < m → a.spot = none := by
      intro h0
      obtain ⟨cs', hcs, _⟩ := hi 0 h0
      rw [hE.1] at hcs
      obtain ⟨_, hlen, hat⟩ := World.cells?_some hcs
      have hz := hat 0 (by omega)
      rw [List.getElem?_eq_getElem (by omega)] at hz
      have e0 : a.add (0 * k) = a := by simp [Addr.add]
      rw [e0] at hz
      exact spot_none hz
    have hex : ∃ (l : List α) (css : Nat → List Value), l.length = len ∧ ∀ i y, l[i]? = some y → (ok (Rows.uptoBulk x.1) y ∧ (∀ φ κ, RC w φ κ (fun b => b < w.heap.size) (en y) (css i) Ct.z) ∧ (∀ u ∈ css i, u.oneCell' = true) ∧ (∀ a ∈ en y, a.leaf = true) ∧ (css i).length = k) ∧ ∀ j u, (css i)[j]? = some u → w.cell? ((a.add (i * k)).add j) = some u := by
      clear hi hbulk hlenb h hx
      revert hall
      clear hl
      induction len with
      | zero => exact fun _ => ⟨[], fun _ => [], rfl, fun i x h => by simp at h⟩
      | succ q ih =>
        intro hall
        obtain ⟨l, css, hl, hq⟩ := ih (fun i hi => hall i (by omega))
        obtain ⟨d, cs', hd, hcs⟩ := hall q (by omega)
        refine ⟨l ++ [d], fun i => if i = q then cs' else css i, by simp [hl], fun i x hx => ?_⟩
        by_cases hik : i < q
        · rw [List.getElem?_append_left (by omega)] at hx
          simp only [show i ≠ q by omega, if_false]
          exact hq i x hx
        · have hik' : i = q := by have := (List.getElem?_eq_some_iff.1 hx).1; simp at this; omega
          subst hik'
          rw [List.getElem?_append_right (by omega), hl] at hx
          simp at hx
          subst hx
          simp only [if_true]
          exact ⟨hd, hcs⟩
    obtain ⟨l, css, hll, hq⟩ := hex
    refine ⟨l, ⟨fun y hy => ?_, by omega⟩, fun φ κ => ?_, fun u hu => by simp at hu; subst hu; rfl, fun a ha => by simp at ha; subst ha; rfl, rfl⟩
    · obtain ⟨i, hi, rfl⟩ := List.mem_iff_getElem.1 hy
      exact (hq i _ (List.getElem?_eq_getElem hi)).1.1
    · refine RC.one_ ?_
      subst hll
      by_cases h0 : m = 0
      · subst h0
        obtain rfl : l = [] := List.eq_nil_of_length_eq_zero (by omega)
        exact .ne
      · obtain ⟨ab, ao, asp⟩ := a
        have hspn := hsp0 (by omega)
        simp only at hspn
        subst hspn
        have hflat : ∀ j u, ((List.range l.length).flatMap css)[j]? = some u → w.cell? ⟨ab, ao + j, none⟩ = some u := by
          intro j u hj
          obtain ⟨i, r, hi, rfl, hu⟩ := flat_at (k := k) (fun i hi => (hq i _ (List.getElem?_eq_getElem hi)).1.2.2.2.2) hj
          have := (hq i _ (List.getElem?_eq_getElem hi)).2 r u hu
          have e1 : (Addr.add (Addr.add ⟨ab, ao, none⟩ (i * k)) r) = ⟨ab, ao + (i * k + r), none⟩ := by
            unfold Addr.add
            split <;> split <;> simp_all [Nat.add_assoc]
          rw [e1] at this
          exact this
        have hE' : RE w φ κ (fun b => b < w.heap.size) k (l.map en) ((List.range l.length).flatMap css) Ct.z := RE.of_rows css fun i x hx => ⟨(hq i x hx).1.2.1 φ κ, (hq i x hx).1.2.2⟩
        have := RV.ro (c := m) (b := ab) (o := ao) hE' (by simp; omega) hm (fun hne => by
          have hl0 : 0 < l.length := by cases l with
            | nil => exact absurd rfl hne
            | cons _ _ => simp
          have hc0 := (hq 0 _ (List.getElem?_eq_getElem hl0)).1.2.2.2.2
          have hz := (hq 0 _ (List.getElem?_eq_getElem hl0)).2 0 _ (List.getElem?_eq_getElem (by omega))
          simp only [Addr.add, Nat.zero_mul, if_true, World.cell?] at hz
          cases hh : w.heap[ab]? with
          | none => simp [hh] at hz
          | some o => exact (Array.getElem?_eq_some_iff.1 hh).1) hflat
        simpa using this
/-- fields from an offset on -/
def OFs (P : Program) (fs : List Field) (off k : Nat) {α : Type} (ok : Nat → α → Prop) (e : α → List AV) : Prop :=
  (∀ m n d, m ≤ n → ok m d → ok n d) ∧ ∀ {H : Type} {enc : TypeId × Value → H} {w : World} {base : Nat} {cs : List Value} {N : Nat},
    (∀ f ∈ fs, ∃ n y, DataW.trod enc P w base (fun _ => true) true n f.type ((cs.drop f.offset).take (P.cellsOf f.type)) = some y ∧ Rows.uptoBulk y.1 ≤ N) → off + k ≤ cs.length →
    ∃ d : α, ok N d ∧ (∀ φ κ, RC w φ κ (fun b => b < w.heap.size) (e d) ((cs.drop off).take k) Ct.z) ∧ (∀ u ∈ (cs.drop off).take k, u.oneCell' = true) ∧ (∀ a ∈ e d, a.leaf = true)
theorem of_nil {off : Nat} : OFs P [] off 0 (fun _ (_ : Unit) => True) (fun _ => []) :=
  ⟨fun _ _ _ _ _ => trivial, fun {H enc w base cs N} _ _ => ⟨(), trivial, fun φ κ => by simp; exact .nil, fun u hu => by simp at hu, fun a ha => by cases ha⟩⟩
theorem of_cons {f : Field} {fs : List Field} {off k2 : Nat} {ok2 : Nat → β → Prop} {en2 : β → List AV} (hoff : f.offset = off) (h1 : OA P f.type k ok en) (h2 : OFs P fs (off + k) k2 ok2 en2) :
    OFs P (f :: fs) off (k + k2) (fun N (d : α × β) => ok N d.1 ∧ ok2 N d.2) (fun d => en d.1 ++ en2 d.2) :=
  ⟨fun m n d h k => ⟨h1.2.1 _ _ _ h k.1, h2.1 _ _ _ h k.2⟩, fun {H enc w base cs N} hf hl => by
    subst hoff
    obtain ⟨n, y, hy, hyb⟩ := hf f (by simp)
    rw [h1.1] at hy
    obtain ⟨a, a1, a2, a3, a4, a5⟩ := h1.2.2 hy
    obtain ⟨b, b1, b2, b3, b4⟩ := h2.2 (cs := cs) (N := N) (fun g hg => hf g (by simp [hg])) (by omega)
    have e0 : (cs.drop f.offset).take (k + k2) = (cs.drop f.offset).take k ++ (cs.drop (f.offset + k)).take k2 := by
      rw [List.take_add, List.drop_drop]
    refine ⟨(a, b), ⟨h1.2.1 _ _ _ hyb a1, b1⟩, fun φ κ => ?_, fun u hu => ?_, fun x hx => ?_⟩
    · rw [e0]; exact (a2 φ κ).append (b2 φ κ) fun _ => rfl
    · rw [e0] at hu; exact (List.mem_append.1 hu).elim (a3 u) (b3 u)
    · exact (List.mem_append.1 hx).elim (a4 x) (b4 x)⟩
theorem oa_struct {fs : Array Field} (ht : P.underlying t = some (.struct fs)) (hc : P.cellsOf t = k) (h : OFs P fs.toList 0 k ok en) : OA P t k ok en :=
  ⟨hc, h.1, fun {H enc w base fuel cs x} hx => by
    obtain ⟨xs, n, _, hxx, hl, hn, hg⟩ := DataW.trod_struct ht hx
    obtain ⟨d, d1, d2, d3, d4⟩ := h.2 (cs := cs) (N := Rows.uptoBulk x.1) (fun f hf => by
      obtain ⟨i, hi, rfl⟩ := List.mem_iff_getElem.1 hf
      have hi' : i < fs.size := by simpa using hi
      have := hg i (fs.toList[i]) (by simp [hi'])
      rw [List.getElem?_eq_getElem (by omega)] at this
      refine ⟨n, _, this, ?_⟩
      have hb := bulk_part (d := (xs[i]'(by omega)).1) (l := xs.map (·.1)) (List.mem_map.2 ⟨_, List.getElem_mem _, rfl⟩)
      rw [hxx]
      simp only [Rows.uptoBulk]
      omega) (by omega)
    rw [hc] at hl
    have e0 : (cs.drop 0).take k = cs := by rw [List.drop_zero]; exact List.take_of_length_le (by omega)
    rw [e0] at d2 d3
    exact ⟨d, d1, d2, d3, d4, hl⟩⟩
/-! arguments -/
variable {H : Type} {enc : TypeId × Value → H} {w : World} {base b0 : Nat} {r : Reach} {v : Value} {d : DataW H} {p : List MemPlace}
theorem arg_ag {fs : Array Field} (ht : P.underlying t = some (.struct fs)) (hE : OA P t k ok en) (hv : Value.okWide P w r b0 t v) (h : DataW.Trod enc P w base (fun _ => true) true t v d p) :
    ∃ x, ok (Rows.uptoBulk d) x ∧ ∀ φ κ, RV w φ κ (fun b => b < w.heap.size) (.ag (en x)) v Ct.z := by
  obtain ⟨cs, rfl, _⟩ := okWide_struct ht hv
  obtain ⟨fuel, hf⟩ := h
  obtain ⟨x, x1, x2, x3, _⟩ := hE.2.2 hf
  simp only [Value.cells] at x2 x3
  refine ⟨x, x1, fun φ κ => ?_⟩
  have := RV.ag (x2 φ κ) x3
  simpa using this
theorem arg_1 {f : α → AV} (hE : OA P t 1 ok (fun x => [f x])) (hv : v.cells.toList = [v]) (h : DataW.Trod enc P w base (fun _ => true) true t v d p) :
    ∃ x, ok (Rows.uptoBulk d) x ∧ ∀ φ κ, RV w φ κ (fun b => b < w.heap.size) (f x) v Ct.z := by
  obtain ⟨fuel, hf⟩ := h
  obtain ⟨x, x1, x2, x3, _⟩ := hE.2.2 hf
  refine ⟨x, x1, fun φ κ => ?_⟩
  have h1 := x2 φ κ
  rw [hv] at h1
  cases h1 with
  | cons a b c => obtain ⟨rfl, rfl⟩ := Ct.split c; exact a
theorem cells_slice (ht : P.underlying t = some (.slice e)) (hv : Value.okWide P w r b0 t v) : v.cells.toList = [v] := by
  unfold Value.okWide at hv
  rw [ht] at hv
  cases v with
  | agg cs => simp only [Cell.okWide, ht] at hv; simp [Cell.ok, ht] at hv
  | tuple cs => simp only [Cell.okWide, ht] at hv; simp [Cell.ok, ht] at hv
  | _ => rfl
/-! what was there reads as it did -/
theorem trodAll_below (hl : laidOutB P = true) {W W' : World} (hb : Below W.heap.size W W') :
    ∀ (ts : List TypeId) (vs : List Value) (ds : List (DataW H)) (ps : List MemPlace), (∀ t ∈ ts, P.readableRec t = true ∧ t < P.types.size) → (∀ x ∈ ps, x.block < W.heap.size) →
      DataW.TrodAll enc P W 0 (fun _ => true) true ts vs ds ps → DataW.TrodAll enc P W' 0 (fun b => decide (b < W.heap.size)) true ts vs ds ps
  | [], [], [], ps, _, _, h => h
  | t :: ts, v :: vs, d :: ds, ps, hr, hlt, h => by
    obtain ⟨p, q, hd, hs, rfl⟩ := h
    have hrt := hr t (by simp)
    exact ⟨p, q, Below.trod hl hrt.1 hrt.2 hd hb fun x hx => hlt x (by simp [hx]), trodAll_below hl hb ts vs ds q (fun t ht => hr t (by simp [ht])) (fun x hx => hlt x (by simp [hx])) hs, rfl⟩
  | [], _ :: _, _, _, _, _, h => by simp [DataW.TrodAll] at h
  | [], [], _ :: _, _, _, _, h => by simp [DataW.TrodAll] at h
  | _ :: _, [], _, _, _, _, h => by simp [DataW.TrodAll] at h
  | _ :: _, _ :: _, [], _, _, _, h => by simp [DataW.TrodAll] at h
/-- THE LAST STEP: the law returns true and leaves alone what was there -/
theorem law_post {f : Func} {s : ChangeSpec} {apart fresh handsOn : Bool} {W W' : World} {args : Array Value} {ds gs : List (DataW H)} {before : List MemPlace} {tb : TypeId}
    (hl : laidOutB P = true) (hv : s.vars = []) (hrt : f.resultTypes = #[tb]) (hub : P.underlying tb = some .bool) (hread : (f.params.toList.all fun t => P.readableRec t && decide (t < P.types.size)) = true)
    (hW : DataW.Whole enc P f.params.toList s.vars apart W args.toList ds gs before) (hfn : ∀ gs', gs' = [] → s.fn H (ds ++ gs') = { results := [.lit (.bool true)], args := ds }) (hb : Below W.heap.size W W') :
    s.post enc P f apart fresh handsOn false W args (.bool true) W' := by
  have hread' : ∀ t ∈ f.params.toList, P.readableRec t = true ∧ t < P.types.size := fun t ht => by
    have := List.all_eq_true.1 hread t ht
    simpa using this
  have hW' := hW
  obtain ⟨p, q, hA, hV, rfl, hfz, hnd⟩ := hW
  rw [hv] at hV
  obtain ⟨rfl, rfl⟩ := trodVars_none hV
  have hlt : ∀ x ∈ p, x.block < W.heap.size := fun x hx => hW'.lt x (by simpa using hx)
  refine ⟨ds, [], p ++ [], [], p, [], hW', ?_, ?_, ?_, ?_, fun h => by cases h⟩
  · rw [hfn [] rfl, hrt]
    exact trodAll_mk1 (shut_bool hub true)
  · rw [hfn [] rfl]
    exact trodAll_below hl hb _ _ _ _ hread' hlt hA
  · rw [hv, hfn [] rfl]
    rfl
  · refine World.keptBut_mono (fun x hx => ⟨hx, .inr (.inl (by simpa using hx))⟩) (hb.frame (· ∈ p ++ []))
/-- a contract that tells true, in the world that the law is called in -/
theorem ac_law {fn : Nat} {args : List AV} {vs : List Value} {W : World} (h : AC P fn args [] (fun v bs' => v = .sc (.bool true) ∧ bs' = [])) (ha : ∀ φ κ, RC W φ κ (fun b => b < W.heap.size) args vs Ct.z) :
    Calls P fn vs.toArray W fun e W' => e = .returned (.bool true) ∧ Below W.heap.size W W' := by
  refine (h.2 W (fun _ _ => none) (fun _ _ => none) _ vs [] Ct.z Ct.z (ha _ _) .nil (fun i g hi => by simp at hi) (fun _ _ _ => rfl) (fun _ _ => rfl) (fun x => by simp [Ct.z]) (fun x hx => by simp [Ct.z] at hx) (fun x hx => ⟨hx, rfl⟩)).mono ?_
  rintro e W' ⟨v, r, bs', gs', Sr, Sb', φ', F, rfl, ⟨rfl, rfl⟩, hr, _, _, _, _, _, _, hf⟩
  cases hr with
  | sc => exact ⟨rfl, hf.os, hf.tape, hf.output, hf.size, fun b hb => hf.block b hb rfl⟩
theorem bulk_of {l : List (DataW H)} (hk : Rows.uptoSmall H l = true) : Rows.uptoBulkAll l ≤ 1048576 := of_decide_eq_true hk
end
end Go.Proofs.Ytkkabbdmfepbiaa

namespace Go.Proofs.Ytkkabbdmfepbiaa
set_option linter.unusedVariables false
set_option linter.unusedSimpArgs false
open Go.RowKit Go.ChangeShapes Go.WideShapes Go.ChangeAt Go.Deep
set_option maxRecDepth 100000
theorem laidOut : laidOutB Try.prog = true := by kernel_rfl
theorem own_knob : ownKnob Try.prog.godebug = none := by kernel_rfl
def I64 (x : Int) : Prop := -9223372036854775808 ≤ x ∧ x ≤ 9223372036854775807
theorem i64_of {x : Int} (h : (Lit.int .i64 x).wf = true) : I64 x := by simpa [Lit.wf, IntKind.min, IntKind.max, IntKind.signed, IntKind.bits, I64] using h
theorem u8_of {x : Int} (h : (Lit.int .u8 x).wf = true) : 0 ≤ x ∧ x ≤ 255 := by simpa [Lit.wf, IntKind.min, IntKind.max, IntKind.signed, IntKind.bits] using h
theorem oi : OA Try.prog 3 1 (fun _ x => I64 x) (fun x => [I x]) := (oa_int Try.underlying3 (by kernel_rfl)).map id (fun _ _ _ _ h => h) (fun _ _ h => i64_of h) fun _ => rfl
theorem obl : OA Try.prog 4 1 (fun _ (_ : Bool) => True) (fun x => [B x]) := oa_bool Try.underlying4 (by kernel_rfl)
theorem ou : OA Try.prog 5 1 (fun _ (_ : UInt8) => True) eB := (oa_int Try.underlying5 (by kernel_rfl)).wmap (fun x : Int => UInt8.ofNat x.toNat) (fun _ _ _ _ h => h) (fun _ _ _ => trivial) fun n x hx => by
  have h := u8_of hx
  have e : ((UInt8.ofNat x.toNat).toNat : Int) = x := by rw [UInt8.toNat_ofNat']; omega
  simp only [eB, U, e]
theorem obs : OA Try.prog 28 1 (fun N (l : List UInt8) => (∀ x ∈ l, True) ∧ l.length < N) (fun l => [bs none l]) := oa_slice (by decide) Try.underlying28 (by kernel_rfl) ou
end Go.Proofs.Ytkkabbdmfepbiaa

namespace Go.Proofs.Ytkkabbdmfepbiaa
set_option linter.unusedVariables false
set_option linter.unusedSimpArgs false
open Go.RowKit Go.ChangeShapes Go.WideShapes Go.ChangeAt Go.Deep
set_option maxRecDepth 100000
theorem om : OA Try.prog 42 3 (fun _ m => I64 m.node ∧ I64 m.since) eM :=
  (oa_struct Try.underlying42 (by kernel_rfl) (of_cons rfl oi (of_cons rfl oi (of_cons rfl obl of_nil)))).map (fun d => ⟨d.1, d.2.1, d.2.2.1⟩) (fun _ _ _ _ h => h) (fun _ _ h => ⟨h.1, h.2.1⟩) fun _ => rfl
theorem oms : OA Try.prog 23 1 (fun N (l : List Member) => (∀ m ∈ l, I64 m.node ∧ I64 m.since) ∧ l.length < N) (fun l => [ms none l]) := oa_slice (by decide) Try.underlying23 (by kernel_rfl) om
def okC (N : Nat) (c : Config) : Prop := I64 c.epoch ∧ (∀ m ∈ c.members, I64 m.node ∧ I64 m.since) ∧ c.members.length < N
theorem okC.up {m n : Nat} {c : Config} (h : m ≤ n) (k : okC m c) : okC n c := ⟨k.1, k.2.1, Nat.lt_of_lt_of_le k.2.2 h⟩
theorem ocf : OA Try.prog 25 2 okC (eC none) :=
  (oa_struct Try.underlying25 (by kernel_rfl) (of_cons rfl oi (of_cons rfl oms of_nil))).map (fun d => ⟨d.1, d.2.1⟩) (fun _ _ _ => okC.up) (fun _ _ h => ⟨h.1, h.2.1.1, h.2.1.2⟩) fun _ => rfl
def okE (N : Nat) (e : Entry) : Prop := I64 e.pos ∧ I64 e.stamp ∧ I64 e.client ∧ I64 e.id ∧ e.body.length < N
theorem okE.up {m n : Nat} {e : Entry} (h : m ≤ n) (k : okE m e) : okE n e := ⟨k.1, k.2.1, k.2.2.1, k.2.2.2.1, Nat.lt_of_lt_of_le k.2.2.2.2 h⟩
theorem oen : OA Try.prog 30 5 okE (eE none) :=
  (oa_struct Try.underlying30 (by kernel_rfl) (of_cons rfl oi (of_cons rfl oi (of_cons rfl oi (of_cons rfl oi (of_cons rfl obs of_nil)))))).map (fun d => ⟨d.1, d.2.1, d.2.2.1, d.2.2.2.1, d.2.2.2.2.1⟩) (fun _ _ _ => okE.up) (fun _ _ h => ⟨h.1, h.2.1, h.2.2.1, h.2.2.2.1, h.2.2.2.2.1.2⟩) fun _ => rfl
end Go.Proofs.Ytkkabbdmfepbiaa

namespace Go.Proofs.Ytkkabbdmfepbiaa
set_option linter.unusedVariables false
set_option linter.unusedSimpArgs false
open Go.RowKit Go.ChangeShapes Go.WideShapes Go.ChangeAt Go.Deep
set_option maxRecDepth 100000
def okK (N : Nat) (b : Book) : Prop := okC N b.cfg ∧ I64 b.since ∧ I64 b.upto
theorem okK.up {m n : Nat} {b : Book} (h : m ≤ n) (k : okK m b) : okK n b := ⟨k.1.up h, k.2⟩
theorem obk : OA Try.prog 27 5 okK (eK none) :=
  (oa_struct Try.underlying27 (by kernel_rfl) (of_cons rfl ocf (of_cons rfl oi (of_cons rfl obl (of_cons rfl oi of_nil))))).map (fun d => ⟨d.1, d.2.1, d.2.2.1, d.2.2.2.1⟩) (fun _ _ _ => okK.up) (fun _ _ h => ⟨h.1, h.2.1, h.2.2.2.1⟩) fun _ => rfl
def okR (N : Nat) (r : Record) : Prop := okK N r.book ∧ okE N r.entry
theorem okR.up {m n : Nat} {r : Record} (h : m ≤ n) (k : okR m r) : okR n r := ⟨k.1.up h, k.2.up h⟩
theorem orc : OA Try.prog 32 12 okR eR :=
  (oa_struct Try.underlying32 (by kernel_rfl) (of_cons rfl ou (of_cons rfl obk (of_cons rfl obl (of_cons rfl oen of_nil))))).map (fun d => ⟨d.1, d.2.1, d.2.2.1, d.2.2.2.1⟩) (fun _ _ _ => okR.up) (fun _ _ h => ⟨h.2.1, h.2.2.2.1⟩) fun _ => rfl
theorem orcs : OA Try.prog 22 1 (fun N (l : List Record) => (∀ r ∈ l, okR N r) ∧ l.length < N) (fun l => [.sl none 12 (l.map eR)]) := oa_slice (by decide) Try.underlying22 (by kernel_rfl) orc
end Go.Proofs.Ytkkabbdmfepbiaa
