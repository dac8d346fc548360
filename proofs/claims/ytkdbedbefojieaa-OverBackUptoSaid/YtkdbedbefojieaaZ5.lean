/-
  Texts joined: X1, BrE, BrD.
-/
import Derived.Test.YtkdbedbefojieaaZ1
import Derived.Test.YtkdbedbefojieaaZ2
import Derived.Test.YtkdbedbefojieaaZ3
import Derived.Test.YtkdbedbefojieaaZ4
namespace Go.Proofs.Ytkdbedbefojieaa
set_option linter.unusedVariables false
set_option linter.unusedSimpArgs false
set_option maxHeartbeats 8000000
open Go.RowKit
set_option maxRecDepth 100000
def xorS (a b : List UInt8) : List UInt8 := List.zipWith (fun x y => x ^^^ y) a b
theorem wrap_u8 {n : Nat} (h : n < 256) : IntKind.u8.wrap (n : Int) = n := by
  simp [IntKind.wrap, IntKind.bits, IntKind.signed]; omega
theorem xor8 (x y : UInt8) : IntKind.u8.wrap ((BitVec.toNat (BitVec.ofInt 8 (x.toNat : Int) ^^^ BitVec.ofInt 8 (y.toNat : Int)) : Nat) : Int) = ((x ^^^ y).toNat : Int) := by
  have hx : BitVec.ofInt 8 (x.toNat : Int) = x.toBitVec := by apply BitVec.eq_of_toNat_eq; simp
  have hy : BitVec.ofInt 8 (y.toNat : Int) = y.toBitVec := by apply BitVec.eq_of_toNat_eq; simp
  rw [hx, hy]
  have h : (x.toBitVec ^^^ y.toBitVec).toNat = (x ^^^ y).toNat := rfl
  rw [h]
  exact wrap_u8 (x ^^^ y).toNat_lt
theorem or8b (x y : UInt8) : IntKind.u8.wrap ((BitVec.toNat (BitVec.ofInt 8 (x.toNat : Int) ||| BitVec.ofInt 8 (y.toNat : Int)) : Nat) : Int) = ((x ||| y).toNat : Int) := by
  have hx : BitVec.ofInt 8 (x.toNat : Int) = x.toBitVec := by apply BitVec.eq_of_toNat_eq; simp
  have hy : BitVec.ofInt 8 (y.toNat : Int) = y.toBitVec := by apply BitVec.eq_of_toNat_eq; simp
  rw [hx, hy]
  have h : (x.toBitVec ||| y.toBitVec).toNat = (x ||| y).toNat := rfl
  rw [h]
  exact wrap_u8 (x ||| y).toNat_lt
def xst (a b : List UInt8) (k : Nat) : List UInt8 := (xorS a b).take k ++ a.drop k
theorem xst_len {a b : List UInt8} (h : a.length = b.length) (k : Nat) : (xst a b k).length = a.length := by simp [xst, xorS]; omega
theorem xst_at {a b : List UInt8} (h : a.length = b.length) {k : Nat} (hk : k < a.length) : (xst a b k)[k]? = some a[k] := by
  unfold xst
  rw [List.getElem?_append_right (by simp [xorS]; omega)]
  simp [xorS]
  rw [show k + (k - min k (min a.length b.length)) = k by omega]
  simp [hk]
theorem xst_set {a b : List UInt8} (h : a.length = b.length) {k : Nat} (hk : k < a.length) : (xst a b k).set k (a[k] ^^^ b[k]'(by omega)) = xst a b (k + 1) := by
  have hl : ((xorS a b).take k).length = k := by simp [xorS]; omega
  unfold xst
  rw [List.set_append_right _ _ (by omega), hl, Nat.sub_self, List.drop_eq_getElem_cons hk, List.set_cons_zero, List.take_succ_eq_append_getElem (by simp [xorS]; omega)]
  simp [xorS]
theorem xor_ac (a b : List UInt8) (h : a.length = b.length) (hl : a.length ≤ 100000000) : AC Try.prog 78 [bs none a, bs none b] [] (fun v bs' => v = bs (some tU) (xorS a b) ∧ bs' = []) := by
  have hc := wcat_ac [a] (by simp) (by simp; omega)
  have hm : (if (b.length : Int) < (a.length : Int) then (b.length : Int) else (a.length : Int)) = (a.length : Int) := by rw [if_neg (by omega)]
  refine AC.N Try.func78 Try.ntmps78 ?_
  intro X
  simp only [nx, Nat.reduceAdd, Nat.reduceSub, BEq.rfl]
  repeat' (first
    | ((first
    | ((with_reducible apply AP.k_any); first
             | refine AP.S ?_
             | refine AP.E ?_
             | refine AP.T ?_
      )
    | ((with_reducible apply AP.k_any); simp only [hm, Int.toNat_natCast, List.take_length]; refine ap_callX rfl rfl (fn := 89) rfl (hc) (by (repeat' (first | exact PasC.nil | apply PasC.nil | apply PasC.cons | apply PasV.leaf rfl | apply PasV.nl | apply PasV.bp rfl | apply PasV.lend rfl rfl rfl | apply PasV.lend rfl rfl (ro_B _) | apply PasV.lend rfl rfl (ro_M _) | apply PasV.lend rfl rfl (ro_E _ _) | apply PasV.lend rfl rfl (ro_I _) | apply PasV.mv rfl | apply PasV.ag | apply PasV.fn | exact PasV.fs | apply PasV.any))) rfl rfl ?_)
    | ((with_reducible apply AP.k_any); refine AP.gh (gh_fz (b := 0) (u := 1) rfl rfl (by (repeat' (first | exact FzC.nil | apply FzC.cons | exact FzV.hd | apply FzV.ag | exact FzV.same))) (by (repeat' (first | exact FzB.nil | apply FzB.c | apply FzB.same | exact FzC.nil | apply FzC.cons | exact FzV.hd | apply FzV.ag | exact FzV.same)))) ?_; first | simp only [roE, roC, AV.ro, ro_B, ro_M, ro_E] | simp only [roE, roC, AV.ro, ro_B])
    )
      <;> (try simp only [nx, Nat.reduceAdd, Nat.reduceSub, BEq.rfl]))
    | ((with_reducible apply AP.k_nil); first
        | (refine AP.nil (hQ' _ ?_); clear hQ' Q')
        | refine AP.nil ?_)
    | ((with_reducible apply CP.k_reg); refine cp_regG fun Q' hQ' => ?_)
      | (with_reducible apply CP.k_reg1; refine cp_region ?_)
      | ((with_reducible apply CP.k_cond); first | refine cp_condT rfl ?_ | refine cp_condF rfl ?_ | refine cp_cond rfl (fun hc => ?_) (fun hc => ?_))
      | refine CP.go ?_
      | (simp only [List.append_eq, List.cons_append, List.nil_append]))
  simp only [List.flatten_cons, List.flatten_nil, List.append_nil]
  refine cp_loopS [6, 18, 19, 20, 21, 22, 23, 24, 25, 26, 27, 28, 29, 30, 31] (fun k : Nat => a.length - k) (fun k => k ≤ a.length) (fun k => [(18, I k), (17, I a.length)]) (fun k => [(0, ⟨2, .r tU 1 ((xst a b k).map eB)⟩)]) 0 (Nat.zero_le _) (by exact Gh.W) ?_
  rintro k hk
  simp only [setT, deT, setB, List.set_cons_succ, List.set_cons_zero]
  have hxl := xst_len h k
  by_cases hlt : k < a.length
  · have hw : IntKind.i64.wrap ((k : Int) + 1) = ((k + 1 : Nat) : Int) := wrap_i64 (by omega) (by omega)
    have hkb : k < b.length := by omega
    have hxa : (xst a b k)[k] = a[k] := by have := xst_at h hlt; rw [List.getElem?_eq_getElem (by omega)] at this; simpa using this
    have hset := xst_set h hlt
    have hx8 : IntKind.u8.wrap (((BitVec.ofInt IntKind.u8.bits (a[k].toNat : Int)) ^^^ (BitVec.ofInt IntKind.u8.bits (b[k].toNat : Int))).toNat : Int) = ((a[k] ^^^ b[k]).toNat : Int) := xor8 a[k] b[k]
    repeat' (first
      | ((first
      | ((with_reducible apply AP.k_any); first
               | refine AP.S ?_
               | refine AP.E ?_
               | refine AP.T ?_
        )
      
      | ((with_reducible apply DW.k_any); first
                  | refine DW.R ?_ | refine DW.R' ?_ | refine DW.W ?_ | refine DW.W' ?_
                  | (refine DW.known rfl ?_; (with_reducible first | apply DW.st 2 | apply DW.stN 2); (iterate 2 (focus (simp only [ft, nm, Nat.reduceAdd, Nat.reduceBEq, List.getElem?_cons_zero, List.getElem?_cons_succ]; exact rfl))); (focus (intro X V; simp only [ft, nm, Nat.reduceAdd, Nat.reduceBEq]; (try (refine AP.Y ?_; dsimp only)); (first  | fail); (try simp only [nx, Nat.reduceAdd, Nat.reduceSub, BEq.rfl]); refine AP.nil ?_; (first | refine ⟨trivial, rfl, ?_⟩ | refine ⟨rfl, rfl, ?_⟩); (repeat' (first | exact Mg.nil | apply Mg.keep rfl | apply Mg.take rfl)); done)); (focus (refine Exists.intro (fun _ => 0) ?_; apply Exists.intro; (repeat' (first | exact Mg.nil | apply Mg.keep rfl | apply Mg.take rfl)); done)))
                  | ((fail_if_success refine DW.known rfl ?_); refine DW.G (fun hg => ?_) (fun hg => ?_))
      )
      )
        <;> (try simp only [nx, Nat.reduceAdd, Nat.reduceSub, BEq.rfl]))
      | ((with_reducible apply AP.k_nil); first
          | (refine AP.nil (hQ' _ ?_); clear hQ' Q')
          | refine AP.nil ?_)
      | ((with_reducible apply CP.k_drw); refine cp_drwX fun Q' hQ' => ?_)
      | ((with_reducible apply CP.k_drw1); refine cp_drawX ?_)
      | ((with_reducible apply DW.k_nil); refine DW.nl ?_; first | (refine hQ' _ ?_; clear hQ' Q') | skip)
      | ((with_reducible apply CP.k_reg); refine cp_regG fun Q' hQ' => ?_)
        | (with_reducible apply CP.k_reg1; refine cp_region ?_)
        | ((with_reducible apply CP.k_cond); first | refine cp_condT rfl ?_ | refine cp_condF rfl ?_ | refine cp_cond rfl (fun hc => ?_) (fun hc => ?_))
        | refine CP.go ?_
        | (simp only [List.append_eq, List.cons_append, List.nil_append]))
    · simp only [hw, hxa, hx8]
      rw [show ∀ y : UInt8, [AV.sc (.int .u8 (y.toNat : Int))] = eB y from fun _ => rfl, ← List.map_set, hset]
      exact ⟨k + 1, by omega, by omega, by exact Gh.W⟩
    · exfalso; simp at *; omega
  · obtain rfl : k = a.length := by omega
    have e1 : xst a b a.length = xorS a b := by unfold xst; rw [List.drop_length, List.append_nil, List.take_of_length_le (by simp [xorS]; omega)]
    rw [e1] at hxl ⊢
    repeat' (first
      | ((first
      | ((with_reducible apply AP.k_any); first
               | refine AP.S ?_
               | refine AP.E ?_
               | refine AP.T ?_
        )
      
      | ((with_reducible apply DW.k_any); first
                  | refine DW.R ?_ | refine DW.R' ?_ | refine DW.W ?_ | refine DW.W' ?_
                  | (refine DW.known rfl ?_; (with_reducible first | apply DW.st 2 | apply DW.stN 2); (iterate 2 (focus (simp only [ft, nm, Nat.reduceAdd, Nat.reduceBEq, List.getElem?_cons_zero, List.getElem?_cons_succ]; exact rfl))); (focus (intro X V; simp only [ft, nm, Nat.reduceAdd, Nat.reduceBEq]; (try (refine AP.Y ?_; dsimp only)); (first  | fail); (try simp only [nx, Nat.reduceAdd, Nat.reduceSub, BEq.rfl]); refine AP.nil ?_; (first | refine ⟨trivial, rfl, ?_⟩ | refine ⟨rfl, rfl, ?_⟩); (repeat' (first | exact Mg.nil | apply Mg.keep rfl | apply Mg.take rfl)); done)); (focus (refine Exists.intro (fun _ => 0) ?_; apply Exists.intro; (repeat' (first | exact Mg.nil | apply Mg.keep rfl | apply Mg.take rfl)); done)))
                  | ((fail_if_success refine DW.known rfl ?_); refine DW.G (fun hg => ?_) (fun hg => ?_))
      )
      )
        <;> (try simp only [nx, Nat.reduceAdd, Nat.reduceSub, BEq.rfl]))
      | ((with_reducible apply AP.k_nil); first
          | (refine AP.nil (hQ' _ ?_); clear hQ' Q')
          | refine AP.nil ?_)
      | ((with_reducible apply CP.k_drw); refine cp_drwX fun Q' hQ' => ?_)
      | ((with_reducible apply CP.k_drw1); refine cp_drawX ?_)
      | ((with_reducible apply DW.k_nil); refine DW.nl ?_; first | (refine hQ' _ ?_; clear hQ' Q') | skip)
      | ((with_reducible apply CP.k_reg); refine cp_regG fun Q' hQ' => ?_)
        | (with_reducible apply CP.k_reg1; refine cp_region ?_)
        | ((with_reducible apply CP.k_cond); first | refine cp_condT rfl ?_ | refine cp_condF rfl ?_ | refine cp_cond rfl (fun hc => ?_) (fun hc => ?_))
        | refine CP.go ?_
        | (simp only [List.append_eq, List.cons_append, List.nil_append]))
    all_goals first
      | (exfalso; simp at *; done)
      | (exfalso; simp at *; omega)
      | (refine RetQ.B [] ?_; (try dsimp only [resV, List.getD_cons_succ, List.getD_cons_zero]); (exact ⟨rfl, rfl⟩))
def orS (l : List UInt8) : UInt8 := l.foldl (fun x y => x ||| y) 0
theorem orS_snoc (l : List UInt8) (x : UInt8) : orS (l ++ [x]) = orS l ||| x := by simp [orS, List.foldl_append]
theorem or_zero {x y : UInt8} : x ||| y = 0 ↔ x = 0 ∧ y = 0 := by
  constructor
  · intro h
    have h' := congrArg UInt8.toNat h
    rw [UInt8.toNat_or] at h'
    have h1 : x.toNat = 0 := by
      have := Nat.left_le_or (n := x.toNat) (m := y.toNat); simp at h'; omega
    have h2 : y.toNat = 0 := by
      have := Nat.right_le_or (n := x.toNat) (m := y.toNat); simp at h'; omega
    exact ⟨UInt8.toNat_inj.1 (by simpa using h1), UInt8.toNat_inj.1 (by simpa using h2)⟩
  · rintro ⟨rfl, rfl⟩; rfl
theorem fold_or : ∀ {l : List UInt8} {x : UInt8}, l.foldl (fun x y => x ||| y) x = 0 ↔ x = 0 ∧ ∀ y ∈ l, y = 0
  | [], x => by simp
  | y :: l, x => by
    rw [List.foldl_cons, fold_or (l := l), or_zero]
    simp [and_assoc]
theorem xor_zero {x y : UInt8} : x ^^^ y = 0 ↔ x = y := by
  constructor
  · intro h
    have : x ^^^ y ^^^ y = 0 ^^^ y := by rw [h]
    simpa [UInt8.xor_assoc] using this
  · rintro rfl; simp
theorem orS_xor : ∀ {a b : List UInt8}, a.length = b.length → (orS (xorS a b) = 0 ↔ a = b)
  | [], [], _ => by simp [orS, xorS]
  | [], _ :: _, h => by simp at h
  | _ :: _, [], h => by simp at h
  | x :: a, y :: b, h => by
    have ih := orS_xor (a := a) (b := b) (by simpa using h)
    unfold orS at ih ⊢
    rw [fold_or] at ih
    rw [xorS, List.zipWith_cons_cons, List.foldl_cons, fold_or, or_zero, xor_zero]
    simp only [true_and] at ih ⊢
    rw [show List.zipWith (fun x y => x ^^^ y) a b = xorS a b from rfl, ih]
    simp
theorem wsame_ac (a b : List UInt8) (hl : a.length ≤ 100000000) : AC Try.prog 35 [bs none a, bs none b] [] (fun v bs' => v = B (decide (a = b)) ∧ bs' = []) := by
  by_cases h : a.length = b.length
  · have hx := (xor_ac a b h hl).ro (r2 := bs none (xorS a b)) (by simp only [AV.ro, ro_B])
    have hxl : (xorS a b).length = a.length := by simp [xorS]; omega
    refine AC.N Try.func35 Try.ntmps35 ?_
    intro X
    simp only [nx, Nat.reduceAdd, Nat.reduceSub, BEq.rfl]
    repeat' (first
      | ((first
      | ((with_reducible apply AP.k_any); first
               | refine AP.S ?_
               | refine AP.E ?_
        )
      | ((with_reducible apply AP.k_any); refine AP.C (hx) ?_)
      )
        <;> (try simp only [nx, Nat.reduceAdd, Nat.reduceSub, BEq.rfl]))
      | ((with_reducible apply AP.k_nil); first
          | (refine AP.nil (hQ' _ ?_); clear hQ' Q')
          | refine AP.nil ?_)
      | ((with_reducible apply CP.k_reg); refine cp_regG fun Q' hQ' => ?_)
        | (with_reducible apply CP.k_reg1; refine cp_region ?_)
        | ((with_reducible apply CP.k_cond); first | refine cp_condT rfl ?_ | refine cp_condF rfl ?_ | refine cp_cond rfl (fun hc => ?_) (fun hc => ?_))
        | refine CP.go ?_
        | (simp only [List.append_eq, List.cons_append, List.nil_append]))
    · exfalso; simp at *; omega
    refine cp_loopS [5, 7, 17, 18, 19, 20, 21, 22, 23, 24] (fun k : Nat => a.length - k) (fun k => k ≤ a.length) (fun k => [(17, I k), (16, I a.length), (15, bs none (xorS a b)), (5, U (orS ((xorS a b).take k)))]) (fun k => []) 0 (Nat.zero_le _) (by (try rw [hxl]); exact Gh.W) ?_
    rintro k hk
    simp only [setT, deT, setB, List.set_cons_succ, List.set_cons_zero]
    by_cases hlt : k < a.length
    · have hw : IntKind.i64.wrap ((k : Int) + 1) = ((k + 1 : Nat) : Int) := wrap_i64 (by omega) (by omega)
      have hkx : k < (xorS a b).length := by omega
      have ho : IntKind.u8.wrap (((BitVec.ofInt IntKind.u8.bits ((orS ((xorS a b).take k)).toNat : Int)) ||| (BitVec.ofInt IntKind.u8.bits ((xorS a b)[k].toNat : Int))).toNat : Int) = ((orS ((xorS a b).take k) ||| (xorS a b)[k]).toNat : Int) := or8b _ _
      have hs : orS ((xorS a b).take (k + 1)) = orS ((xorS a b).take k) ||| (xorS a b)[k] := by rw [List.take_succ_eq_append_getElem hkx, orS_snoc]
      repeat' (first
        | ((first
        | ((with_reducible apply AP.k_any); first
                 | refine AP.S ?_
                 | refine AP.E ?_
          )
        
        )
          <;> (try simp only [nx, Nat.reduceAdd, Nat.reduceSub, BEq.rfl]))
        | ((with_reducible apply AP.k_nil); first
            | (refine AP.nil (hQ' _ ?_); clear hQ' Q')
            | refine AP.nil ?_)
        | ((with_reducible apply CP.k_reg); refine cp_regG fun Q' hQ' => ?_)
          | (with_reducible apply CP.k_reg1; refine cp_region ?_)
          | ((with_reducible apply CP.k_cond); first | refine cp_condT rfl ?_ | refine cp_condF rfl ?_ | refine cp_cond rfl (fun hc => ?_) (fun hc => ?_))
          | refine CP.go ?_
          | (simp only [List.append_eq, List.cons_append, List.nil_append]))
      · simp only [hw, ho]
        refine ⟨k + 1, by omega, by omega, ?_⟩
        rw [hs]
        exact Gh.W
      · exfalso; simp at *; omega
    · obtain rfl : k = a.length := by omega
      have ht : (xorS a b).take a.length = xorS a b := List.take_of_length_le (by omega)
      rw [ht]
      have hz := orS_xor h
      have hq : (((orS (xorS a b)).toNat : Int) == 0) = decide (a = b) := by
        rw [Bool.eq_iff_iff]
        simp only [beq_iff_eq, decide_eq_true_eq, ← hz, ← UInt8.toNat_inj]
        simp
      repeat' (first
        | ((first
        | ((with_reducible apply AP.k_any); first
                 | refine AP.S ?_
                 | refine AP.E ?_
          )
        
        )
          <;> (try simp only [nx, Nat.reduceAdd, Nat.reduceSub, BEq.rfl]))
        | ((with_reducible apply AP.k_nil); first
            | (refine AP.nil (hQ' _ ?_); clear hQ' Q')
            | refine AP.nil ?_)
        | ((with_reducible apply CP.k_reg); refine cp_regG fun Q' hQ' => ?_)
          | (with_reducible apply CP.k_reg1; refine cp_region ?_)
          | ((with_reducible apply CP.k_cond); first | refine cp_condT rfl ?_ | refine cp_condF rfl ?_ | refine cp_cond rfl (fun hc => ?_) (fun hc => ?_))
          | refine CP.go ?_
          | (simp only [List.append_eq, List.cons_append, List.nil_append]))
      all_goals first
        | (exfalso; simp at *; done)
        | (exfalso; simp at *; omega)
        | (refine RetQ.B [] ?_; (try dsimp only [resV, List.getD_cons_succ, List.getD_cons_zero]); (exact ⟨by rw [← hq], rfl⟩))
  · have hd : decide (a = b) = false := by simp; rintro rfl; exact h rfl
    rw [hd]
    refine AC.N Try.func35 Try.ntmps35 ?_
    intro X
    simp only [nx, Nat.reduceAdd, Nat.reduceSub, BEq.rfl]
    repeat' (first
      | ((first
      | ((with_reducible apply AP.k_any); first
               | refine AP.S ?_
               | refine AP.E ?_
        )
      
      )
        <;> (try simp only [nx, Nat.reduceAdd, Nat.reduceSub, BEq.rfl]))
      | ((with_reducible apply AP.k_nil); first
          | (refine AP.nil (hQ' _ ?_); clear hQ' Q')
          | refine AP.nil ?_)
      | ((with_reducible apply CP.k_reg); refine cp_regG fun Q' hQ' => ?_)
        | (with_reducible apply CP.k_reg1; refine cp_region ?_)
        | ((with_reducible apply CP.k_cond); first | refine cp_condT rfl ?_ | refine cp_condF rfl ?_ | refine cp_cond rfl (fun hc => ?_) (fun hc => ?_))
        | refine CP.go ?_
        | (simp only [List.append_eq, List.cons_append, List.nil_append]))
    · (refine RetQ.B [] ?_; (try dsimp only [resV, List.getD_cons_succ, List.getD_cons_zero]); (exact ⟨rfl, rfl⟩))
    all_goals (exfalso; simp at *; omega)
end Go.Proofs.Ytkdbedbefojieaa

namespace Go.Proofs.Ytkdbedbefojieaa
set_option linter.unusedVariables false
set_option linter.unusedSimpArgs false
open Go.RowKit Go.ChangeShapes Go.WideShapes Go.ChangeAt Go.Deep
set_option maxRecDepth 100000
theorem om : OA Try.prog 34 3 (fun _ m => I64 m.node ∧ I64 m.since) eM :=
  (oa_struct Try.underlying34 (by kernel_rfl) (of_cons rfl oi (of_cons rfl oi (of_cons rfl obl of_nil)))).map (fun d => ⟨d.1, d.2.1, d.2.2.1⟩) (fun _ _ _ _ h => h) (fun _ _ h => ⟨h.1, h.2.1⟩) fun _ => rfl
theorem oms : OA Try.prog 22 1 (fun N (l : List Member) => (∀ m ∈ l, I64 m.node ∧ I64 m.since) ∧ l.length < N) (fun l => [ms none l]) := oa_slice (by decide) Try.underlying22 (by kernel_rfl) om
def okC (N : Nat) (c : Config) : Prop := I64 c.epoch ∧ (∀ m ∈ c.members, I64 m.node ∧ I64 m.since) ∧ c.members.length < N
theorem okC.up {m n : Nat} {c : Config} (h : m ≤ n) (k : okC m c) : okC n c := ⟨k.1, k.2.1, Nat.lt_of_lt_of_le k.2.2 h⟩
theorem ocf : OA Try.prog 24 2 okC (eC none) :=
  (oa_struct Try.underlying24 (by kernel_rfl) (of_cons rfl oi (of_cons rfl oms of_nil))).map (fun d => ⟨d.1, d.2.1⟩) (fun _ _ _ => okC.up) (fun _ _ h => ⟨h.1, h.2.1.1, h.2.1.2⟩) fun _ => rfl
def okE (N : Nat) (e : Entry) : Prop := I64 e.pos ∧ I64 e.stamp ∧ I64 e.client ∧ I64 e.id ∧ e.body.length < N
theorem okE.up {m n : Nat} {e : Entry} (h : m ≤ n) (k : okE m e) : okE n e := ⟨k.1, k.2.1, k.2.2.1, k.2.2.2.1, Nat.lt_of_lt_of_le k.2.2.2.2 h⟩
theorem oen : OA Try.prog 41 5 okE (eE none) :=
  (oa_struct Try.underlying41 (by kernel_rfl) (of_cons rfl oi (of_cons rfl oi (of_cons rfl oi (of_cons rfl oi (of_cons rfl obs of_nil)))))).map (fun d => ⟨d.1, d.2.1, d.2.2.1, d.2.2.2.1, d.2.2.2.2.1⟩) (fun _ _ _ => okE.up) (fun _ _ h => ⟨h.1, h.2.1, h.2.2.1, h.2.2.2.1, h.2.2.2.2.1.2⟩) fun _ => rfl
end Go.Proofs.Ytkdbedbefojieaa

namespace Go.Proofs.Ytkdbedbefojieaa
set_option linter.unusedVariables false
set_option linter.unusedSimpArgs false
open Go.RowKit Go.ChangeShapes Go.WideShapes Go.ChangeAt Go.Deep
set_option maxRecDepth 100000
def okK (N : Nat) (b : Book) : Prop := okC N b.cfg ∧ I64 b.since ∧ I64 b.upto
theorem okK.up {m n : Nat} {b : Book} (h : m ≤ n) (k : okK m b) : okK n b := ⟨k.1.up h, k.2⟩
theorem obk : OA Try.prog 26 5 okK (eK none) :=
  (oa_struct Try.underlying26 (by kernel_rfl) (of_cons rfl ocf (of_cons rfl oi (of_cons rfl obl (of_cons rfl oi of_nil))))).map (fun d => ⟨d.1, d.2.1, d.2.2.1, d.2.2.2.1⟩) (fun _ _ _ => okK.up) (fun _ _ h => ⟨h.1, h.2.1, h.2.2.2.1⟩) fun _ => rfl
def okR (N : Nat) (r : Record) : Prop := okK N r.book ∧ okE N r.entry
theorem okR.up {m n : Nat} {r : Record} (h : m ≤ n) (k : okR m r) : okR n r := ⟨k.1.up h, k.2.up h⟩
theorem orc : OA Try.prog 43 12 okR eR :=
  (oa_struct Try.underlying43 (by kernel_rfl) (of_cons rfl ou (of_cons rfl obk (of_cons rfl obl (of_cons rfl oen of_nil))))).map (fun d => ⟨d.1, d.2.1, d.2.2.1, d.2.2.2.1⟩) (fun _ _ _ => okR.up) (fun _ _ h => ⟨h.2.1, h.2.2.2.1⟩) fun _ => rfl
theorem orcs : OA Try.prog 38 1 (fun N (l : List Record) => (∀ r ∈ l, okR N r) ∧ l.length < N) (fun l => [.sl none 12 (l.map eR)]) := oa_slice (by decide) Try.underlying38 (by kernel_rfl) orc
theorem ocfs : OA Try.prog 53 1 (fun N (l : List Config) => (∀ r ∈ l, okC N r) ∧ l.length < N) (fun l => [.sl none 2 (l.map (eC none))]) := oa_slice (by decide) Try.underlying53 (by kernel_rfl) ocf
end Go.Proofs.Ytkdbedbefojieaa
