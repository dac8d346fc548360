/-
  KINDS of operations and of code, told apart quickly. Nothing here names a function of the program.
-/
import Derived.Test.YtkdbedbefojieaaOp7
import Derived.IntWalk
namespace Go.Proofs.Ytkdbedbefojieaa
set_option linter.unusedVariables false
set_option linter.unusedSimpArgs false
open Go.RowKit
section
variable {P : Program} {X : Cx} {s : AS} {ops : Array Oper} {rest : List Oper} {Q : Exit → AS → Prop} {Qa : AS → Prop} {d : Option Nat} {ty : Nat} {pos : String} {aft : Array Edge} {g : Option (Nat × Bool)}
theorem AP.k_move {x : Operand} (h : AP P X ops Q (⟨d, .move x, ty, pos, aft, g⟩ :: rest) s) : AP P X ops Q (⟨d, .move x, ty, pos, aft, g⟩ :: rest) s := h
theorem AQ.k_move {x : Operand} (h : AQ P X ops Qa (⟨d, .move x, ty, pos, aft, g⟩ :: rest) s) : AQ P X ops Qa (⟨d, .move x, ty, pos, aft, g⟩ :: rest) s := h
theorem AP.k_assign {x : Operand} (h : AP P X ops Q (⟨d, .assign x, ty, pos, aft, g⟩ :: rest) s) : AP P X ops Q (⟨d, .assign x, ty, pos, aft, g⟩ :: rest) s := h
theorem AQ.k_assign {x : Operand} (h : AQ P X ops Qa (⟨d, .assign x, ty, pos, aft, g⟩ :: rest) s) : AQ P X ops Qa (⟨d, .assign x, ty, pos, aft, g⟩ :: rest) s := h
theorem AP.k_pick {x y z : Operand} (h : AP P X ops Q (⟨d, .pick x y z, ty, pos, aft, g⟩ :: rest) s) : AP P X ops Q (⟨d, .pick x y z, ty, pos, aft, g⟩ :: rest) s := h
theorem AQ.k_pick {x y z : Operand} (h : AQ P X ops Qa (⟨d, .pick x y z, ty, pos, aft, g⟩ :: rest) s) : AQ P X ops Qa (⟨d, .pick x y z, ty, pos, aft, g⟩ :: rest) s := h
theorem AP.k_alloc {T : TypeId} (h : AP P X ops Q (⟨d, .alloc T, ty, pos, aft, g⟩ :: rest) s) : AP P X ops Q (⟨d, .alloc T, ty, pos, aft, g⟩ :: rest) s := h
theorem AQ.k_alloc {T : TypeId} (h : AQ P X ops Qa (⟨d, .alloc T, ty, pos, aft, g⟩ :: rest) s) : AQ P X ops Qa (⟨d, .alloc T, ty, pos, aft, g⟩ :: rest) s := h
theorem AP.k_box {T : TypeId} {x : Operand} (h : AP P X ops Q (⟨d, .box T x, ty, pos, aft, g⟩ :: rest) s) : AP P X ops Q (⟨d, .box T x, ty, pos, aft, g⟩ :: rest) s := h
theorem AQ.k_box {T : TypeId} {x : Operand} (h : AQ P X ops Qa (⟨d, .box T x, ty, pos, aft, g⟩ :: rest) s) : AQ P X ops Qa (⟨d, .box T x, ty, pos, aft, g⟩ :: rest) s := h
theorem AP.k_build {T : TypeId} {ps : Array (Nat × Operand)} (h : AP P X ops Q (⟨d, .build T ps, ty, pos, aft, g⟩ :: rest) s) : AP P X ops Q (⟨d, .build T ps, ty, pos, aft, g⟩ :: rest) s := h
theorem AQ.k_build {T : TypeId} {ps : Array (Nat × Operand)} (h : AQ P X ops Qa (⟨d, .build T ps, ty, pos, aft, g⟩ :: rest) s) : AQ P X ops Qa (⟨d, .build T ps, ty, pos, aft, g⟩ :: rest) s := h
theorem AP.k_bsl {T : TypeId} {n : Nat} {ps : Array (Nat × Operand)} (h : AP P X ops Q (⟨d, .buildSlice T n ps, ty, pos, aft, g⟩ :: rest) s) : AP P X ops Q (⟨d, .buildSlice T n ps, ty, pos, aft, g⟩ :: rest) s := h
theorem AQ.k_bsl {T : TypeId} {n : Nat} {ps : Array (Nat × Operand)} (h : AQ P X ops Qa (⟨d, .buildSlice T n ps, ty, pos, aft, g⟩ :: rest) s) : AQ P X ops Qa (⟨d, .buildSlice T n ps, ty, pos, aft, g⟩ :: rest) s := h
theorem AP.k_load {T : TypeId} {x : Operand} (h : AP P X ops Q (⟨d, .load T x, ty, pos, aft, g⟩ :: rest) s) : AP P X ops Q (⟨d, .load T x, ty, pos, aft, g⟩ :: rest) s := h
theorem AQ.k_load {T : TypeId} {x : Operand} (h : AQ P X ops Qa (⟨d, .load T x, ty, pos, aft, g⟩ :: rest) s) : AQ P X ops Qa (⟨d, .load T x, ty, pos, aft, g⟩ :: rest) s := h
theorem AP.k_store {T : TypeId} {x y : Operand} (h : AP P X ops Q (⟨d, .store T x y, ty, pos, aft, g⟩ :: rest) s) : AP P X ops Q (⟨d, .store T x y, ty, pos, aft, g⟩ :: rest) s := h
theorem AQ.k_store {T : TypeId} {x y : Operand} (h : AQ P X ops Qa (⟨d, .store T x y, ty, pos, aft, g⟩ :: rest) s) : AQ P X ops Qa (⟨d, .store T x y, ty, pos, aft, g⟩ :: rest) s := h
theorem AP.k_nilc {x : Operand} (h : AP P X ops Q (⟨d, .nilCheck x, ty, pos, aft, g⟩ :: rest) s) : AP P X ops Q (⟨d, .nilCheck x, ty, pos, aft, g⟩ :: rest) s := h
theorem AQ.k_nilc {x : Operand} (h : AQ P X ops Qa (⟨d, .nilCheck x, ty, pos, aft, g⟩ :: rest) s) : AQ P X ops Qa (⟨d, .nilCheck x, ty, pos, aft, g⟩ :: rest) s := h
theorem AP.k_bin {b : BinOp} {T T1 : TypeId} {x y : Operand} (h : AP P X ops Q (⟨d, .binOp b T x y T1, ty, pos, aft, g⟩ :: rest) s) : AP P X ops Q (⟨d, .binOp b T x y T1, ty, pos, aft, g⟩ :: rest) s := h
theorem AQ.k_bin {b : BinOp} {T T1 : TypeId} {x y : Operand} (h : AQ P X ops Qa (⟨d, .binOp b T x y T1, ty, pos, aft, g⟩ :: rest) s) : AQ P X ops Qa (⟨d, .binOp b T x y T1, ty, pos, aft, g⟩ :: rest) s := h
theorem AP.k_un {b : UnOp} {T : TypeId} {x : Operand} (h : AP P X ops Q (⟨d, .unOp b T x, ty, pos, aft, g⟩ :: rest) s) : AP P X ops Q (⟨d, .unOp b T x, ty, pos, aft, g⟩ :: rest) s := h
theorem AQ.k_un {b : UnOp} {T : TypeId} {x : Operand} (h : AQ P X ops Qa (⟨d, .unOp b T x, ty, pos, aft, g⟩ :: rest) s) : AQ P X ops Qa (⟨d, .unOp b T x, ty, pos, aft, g⟩ :: rest) s := h
theorem AP.k_conv {T T1 : TypeId} {x : Operand} (h : AP P X ops Q (⟨d, .convert T T1 x, ty, pos, aft, g⟩ :: rest) s) : AP P X ops Q (⟨d, .convert T T1 x, ty, pos, aft, g⟩ :: rest) s := h
theorem AQ.k_conv {T T1 : TypeId} {x : Operand} (h : AQ P X ops Qa (⟨d, .convert T T1 x, ty, pos, aft, g⟩ :: rest) s) : AQ P X ops Qa (⟨d, .convert T T1 x, ty, pos, aft, g⟩ :: rest) s := h
theorem AP.k_slice {T : TypeId} {x : Operand} {lo hi mx : Option Operand} (h : AP P X ops Q (⟨d, .slice T x lo hi mx, ty, pos, aft, g⟩ :: rest) s) : AP P X ops Q (⟨d, .slice T x lo hi mx, ty, pos, aft, g⟩ :: rest) s := h
theorem AQ.k_slice {T : TypeId} {x : Operand} {lo hi mx : Option Operand} (h : AQ P X ops Qa (⟨d, .slice T x lo hi mx, ty, pos, aft, g⟩ :: rest) s) : AQ P X ops Qa (⟨d, .slice T x lo hi mx, ty, pos, aft, g⟩ :: rest) s := h
theorem AP.k_field {T : TypeId} {x : Operand} {n : Nat} (h : AP P X ops Q (⟨d, .fieldAddr T x n, ty, pos, aft, g⟩ :: rest) s) : AP P X ops Q (⟨d, .fieldAddr T x n, ty, pos, aft, g⟩ :: rest) s := h
theorem AQ.k_field {T : TypeId} {x : Operand} {n : Nat} (h : AQ P X ops Qa (⟨d, .fieldAddr T x n, ty, pos, aft, g⟩ :: rest) s) : AQ P X ops Qa (⟨d, .fieldAddr T x n, ty, pos, aft, g⟩ :: rest) s := h
theorem AP.k_fieldv {T : TypeId} {x : Operand} {n : Nat} (h : AP P X ops Q (⟨d, .field T x n, ty, pos, aft, g⟩ :: rest) s) : AP P X ops Q (⟨d, .field T x n, ty, pos, aft, g⟩ :: rest) s := h
theorem AQ.k_fieldv {T : TypeId} {x : Operand} {n : Nat} (h : AQ P X ops Qa (⟨d, .field T x n, ty, pos, aft, g⟩ :: rest) s) : AQ P X ops Qa (⟨d, .field T x n, ty, pos, aft, g⟩ :: rest) s := h
theorem AP.k_ixa {T : TypeId} {x y : Operand} (h : AP P X ops Q (⟨d, .indexAddr T x y, ty, pos, aft, g⟩ :: rest) s) : AP P X ops Q (⟨d, .indexAddr T x y, ty, pos, aft, g⟩ :: rest) s := h
theorem AQ.k_ixa {T : TypeId} {x y : Operand} (h : AQ P X ops Qa (⟨d, .indexAddr T x y, ty, pos, aft, g⟩ :: rest) s) : AQ P X ops Qa (⟨d, .indexAddr T x y, ty, pos, aft, g⟩ :: rest) s := h
theorem AP.k_ix {T : TypeId} {x y : Operand} (h : AP P X ops Q (⟨d, .index T x y, ty, pos, aft, g⟩ :: rest) s) : AP P X ops Q (⟨d, .index T x y, ty, pos, aft, g⟩ :: rest) s := h
theorem AQ.k_ix {T : TypeId} {x y : Operand} (h : AQ P X ops Qa (⟨d, .index T x y, ty, pos, aft, g⟩ :: rest) s) : AQ P X ops Qa (⟨d, .index T x y, ty, pos, aft, g⟩ :: rest) s := h
theorem AP.k_extract {x : Operand} {n : Nat} (h : AP P X ops Q (⟨d, .extract x n, ty, pos, aft, g⟩ :: rest) s) : AP P X ops Q (⟨d, .extract x n, ty, pos, aft, g⟩ :: rest) s := h
theorem AQ.k_extract {x : Operand} {n : Nat} (h : AQ P X ops Qa (⟨d, .extract x n, ty, pos, aft, g⟩ :: rest) s) : AQ P X ops Qa (⟨d, .extract x n, ty, pos, aft, g⟩ :: rest) s := h
theorem AP.k_callf {n : Nat} {xs : Array Operand} {tys : Array TypeId} (h : AP P X ops Q (⟨d, .call { callee := .value (.func n), args := xs, argTypes := tys }, ty, pos, aft, g⟩ :: rest) s) : AP P X ops Q (⟨d, .call { callee := .value (.func n), args := xs, argTypes := tys }, ty, pos, aft, g⟩ :: rest) s := h
theorem AQ.k_callf {n : Nat} {xs : Array Operand} {tys : Array TypeId} (h : AQ P X ops Qa (⟨d, .call { callee := .value (.func n), args := xs, argTypes := tys }, ty, pos, aft, g⟩ :: rest) s) : AQ P X ops Qa (⟨d, .call { callee := .value (.func n), args := xs, argTypes := tys }, ty, pos, aft, g⟩ :: rest) s := h
theorem AP.k_callt {n : Nat} {xs : Array Operand} {tys : Array TypeId} (h : AP P X ops Q (⟨d, .call { callee := .value (.tmp n), args := xs, argTypes := tys }, ty, pos, aft, g⟩ :: rest) s) : AP P X ops Q (⟨d, .call { callee := .value (.tmp n), args := xs, argTypes := tys }, ty, pos, aft, g⟩ :: rest) s := h
theorem AQ.k_callt {n : Nat} {xs : Array Operand} {tys : Array TypeId} (h : AQ P X ops Qa (⟨d, .call { callee := .value (.tmp n), args := xs, argTypes := tys }, ty, pos, aft, g⟩ :: rest) s) : AQ P X ops Qa (⟨d, .call { callee := .value (.tmp n), args := xs, argTypes := tys }, ty, pos, aft, g⟩ :: rest) s := h
theorem AP.k_callb {n : Builtin} {xs : Array Operand} {tys : Array TypeId} (h : AP P X ops Q (⟨d, .call { callee := .builtin n, args := xs, argTypes := tys }, ty, pos, aft, g⟩ :: rest) s) : AP P X ops Q (⟨d, .call { callee := .builtin n, args := xs, argTypes := tys }, ty, pos, aft, g⟩ :: rest) s := h
theorem AQ.k_callb {n : Builtin} {xs : Array Operand} {tys : Array TypeId} (h : AQ P X ops Qa (⟨d, .call { callee := .builtin n, args := xs, argTypes := tys }, ty, pos, aft, g⟩ :: rest) s) : AQ P X ops Qa (⟨d, .call { callee := .builtin n, args := xs, argTypes := tys }, ty, pos, aft, g⟩ :: rest) s := h
theorem AP.k_len {xs : Array Operand} {tys : Array TypeId} (h : AP P X ops Q (⟨d, .call { callee := .builtin .len, args := xs, argTypes := tys }, ty, pos, aft, g⟩ :: rest) s) : AP P X ops Q (⟨d, .call { callee := .builtin .len, args := xs, argTypes := tys }, ty, pos, aft, g⟩ :: rest) s := h
theorem AQ.k_len {xs : Array Operand} {tys : Array TypeId} (h : AQ P X ops Qa (⟨d, .call { callee := .builtin .len, args := xs, argTypes := tys }, ty, pos, aft, g⟩ :: rest) s) : AQ P X ops Qa (⟨d, .call { callee := .builtin .len, args := xs, argTypes := tys }, ty, pos, aft, g⟩ :: rest) s := h
theorem AP.k_app {xs : Array Operand} {tys : Array TypeId} (h : AP P X ops Q (⟨d, .call { callee := .builtin .append, args := xs, argTypes := tys }, ty, pos, aft, g⟩ :: rest) s) : AP P X ops Q (⟨d, .call { callee := .builtin .append, args := xs, argTypes := tys }, ty, pos, aft, g⟩ :: rest) s := h
theorem AQ.k_app {xs : Array Operand} {tys : Array TypeId} (h : AQ P X ops Qa (⟨d, .call { callee := .builtin .append, args := xs, argTypes := tys }, ty, pos, aft, g⟩ :: rest) s) : AQ P X ops Qa (⟨d, .call { callee := .builtin .append, args := xs, argTypes := tys }, ty, pos, aft, g⟩ :: rest) s := h
theorem AP.k_mks {T : TypeId} {x y : Operand} (h : AP P X ops Q (⟨d, .makeSlice T x y, ty, pos, aft, g⟩ :: rest) s) : AP P X ops Q (⟨d, .makeSlice T x y, ty, pos, aft, g⟩ :: rest) s := h
theorem AQ.k_mks {T : TypeId} {x y : Operand} (h : AQ P X ops Qa (⟨d, .makeSlice T x y, ty, pos, aft, g⟩ :: rest) s) : AQ P X ops Qa (⟨d, .makeSlice T x y, ty, pos, aft, g⟩ :: rest) s := h
theorem AP.k_mkf {f : Fn} {xs ys : Array Operand} (h : AP P X ops Q (⟨d, .makeFunc f xs ys, ty, pos, aft, g⟩ :: rest) s) : AP P X ops Q (⟨d, .makeFunc f xs ys, ty, pos, aft, g⟩ :: rest) s := h
theorem AQ.k_mkf {f : Fn} {xs ys : Array Operand} (h : AQ P X ops Qa (⟨d, .makeFunc f xs ys, ty, pos, aft, g⟩ :: rest) s) : AQ P X ops Qa (⟨d, .makeFunc f xs ys, ty, pos, aft, g⟩ :: rest) s := h
theorem AP.k_nil (h : AP P X ops Q [] s) : AP P X ops Q [] s := h
theorem AP.k_guard {j : Nat} {b : Bool} {o : Op} (h : AP P X ops Q (⟨d, o, ty, pos, aft, some (j, b)⟩ :: rest) s) : AP P X ops Q (⟨d, o, ty, pos, aft, some (j, b)⟩ :: rest) s := h
theorem AQ.k_nil (h : AQ P X ops Qa [] s) : AQ P X ops Qa [] s := h
theorem AQ.k_guard {j : Nat} {b : Bool} {o : Op} (h : AQ P X ops Qa (⟨d, o, ty, pos, aft, some (j, b)⟩ :: rest) s) : AQ P X ops Qa (⟨d, o, ty, pos, aft, some (j, b)⟩ :: rest) s := h
theorem CP.k_reg {id : Nat} {l : List Oper} {y : Code} (h : CP P X (.seq (.region id l.toArray false) y) Q s) : CP P X (.seq (.region id l.toArray false) y) Q s := h
theorem CP.k_drw {id : Nat} {l : List Oper} {y : Code} (h : CP P X (.seq (.region id l.toArray true) y) Q s) : CP P X (.seq (.region id l.toArray true) y) Q s := h
theorem CP.k_reg1 {id : Nat} {l : List Oper} (h : CP P X (.region id l.toArray false) Q s) : CP P X (.region id l.toArray false) Q s := h
theorem CP.k_drw1 {id : Nat} {l : List Oper} (h : CP P X (.region id l.toArray true) Q s) : CP P X (.region id l.toArray true) Q s := h
theorem CP.k_seq {x y : Code} (h : CP P X (.seq x y) Q s) : CP P X (.seq x y) Q s := h
theorem CP.k_cond {c : Operand} {x y : Code} (h : CP P X (.cond c x y) Q s) : CP P X (.cond c x y) Q s := h
theorem CP.k_block {id : Nat} {x : Code} (h : CP P X (.block id x) Q s) : CP P X (.block id x) Q s := h
theorem CP.k_exit {id : Nat} (h : CP P X (.exit id) Q s) : CP P X (.exit id) Q s := h
theorem CP.k_ret (h : CP P X (.ret) Q s) : CP P X (.ret) Q s := h
theorem CP.k_skip (h : CP P X (.skip) Q s) : CP P X (.skip) Q s := h
theorem CP.k_loop {x : Code} (h : CP P X (.loop x) Q s) : CP P X (.loop x) Q s := h
end
theorem roe_n : roE [] = [] := rfl
theorem roe_c {c : List AV} {s : List (List AV)} : roE (c :: s) = roC c :: roE s := rfl
theorem roc_n : roC [] = [] := rfl
theorem roc_c {a : AV} {l : List AV} : roC (a :: l) = a.ro :: roC l := rfl
theorem ros_c {v : Value} : (AV.sc v).ro = .sc v := rfl
theorem ros_l {o : Option TypeId} {k : Nat} {s : List (List AV)} : (AV.sl o k s).ro = .sl none k (roE s) := rfl
theorem map_tk {α : Type} {f : α → List AV} {l : List α} {n : Nat} : (l.map f).take n = (l.take n).map f := List.map_take.symm
theorem map_dr {α : Type} {f : α → List AV} {l : List α} {n : Nat} : (l.map f).drop n = (l.drop n).map f := List.map_drop.symm
/-- the rules by which a state is reckoned -/
theorem nm : type_of% (And.intro @List.length_map.{0, 0} (And.intro @ac_sb (And.intro @roe_n (And.intro @roe_c (And.intro @roc_n (And.intro @roc_c (And.intro @ros_c (And.intro @ros_l (And.intro @map_tk (And.intro @map_dr (And.intro @Nat.sub_zero (And.intro @List.drop_zero.{0} (And.intro @ov_fn (And.intro @oc_fn (And.intro @or_fn (And.intro @ap_some (And.intro @ap_none (And.intro @fx_nil (And.intro @fx_x (And.intro @fx_c (And.intro @fx_r (And.intro @fx_o (And.intro @oc_nil (And.intro @oc_sc (And.intro @oc_sl (And.intro @oc_tr (And.intro @oc_bp (And.intro @oc_de (And.intro @ov_sc (And.intro @ov_sl (And.intro @ov_tr (And.intro @ov_bp (And.intro @ov_de (And.intro @ov_ag (And.intro @ol_nil (And.intro @ol_cons (And.intro @or_sc (And.intro @or_sl (And.intro @or_tr (And.intro @or_bp (And.intro @or_de (And.intro @or_ag (And.intro @or_tu (And.intro @ac_ag (And.intro @ac_sc (And.intro @ac_sl (And.intro @ac_hd (And.intro @ac_bp (And.intro @ac_fn (And.intro @ae_f (And.intro @ae_t (And.intro @ae_i (And.intro @ae_b (And.intro @ae_s (And.intro @ae_l (And.intro @ae_p (And.intro @List.set_cons_succ.{0} (And.intro @List.set_cons_zero.{0} (And.intro @List.length_cons.{0} (And.intro @List.length_nil.{0} (And.intro @List.replicate_succ.{0} (And.intro @List.replicate_zero.{0} (And.intro @List.cons_append.{0} (And.intro @List.nil_append.{0} (And.intro @Nat.zero_add (And.intro @Nat.add_zero (And.intro @List.getD_cons_succ.{0} (And.intro @List.getD_cons_zero.{0} (And.intro @List.map_cons.{0,0} (And.intro @List.map_nil.{0,0} (And.intro @List.drop_succ_cons.{0} (And.intro @List.drop_zero.{0} (And.intro @List.take_succ_cons.{0} (And.intro @List.take_zero.{0} (And.intro @List.range_zero (And.intro @List.range_one (And.intro @Int.toNat_natCast (And.intro @Int.toNat_zero (And.intro @List.toList_toArray.{0} (And.intro @Nat.zero_mul @Nat.one_mul)))))))))))))))))))))))))))))))))))))))))))))))))))))))))))))))))))))))))))))))) := (And.intro @List.length_map.{0, 0} (And.intro @ac_sb (And.intro @roe_n (And.intro @roe_c (And.intro @roc_n (And.intro @roc_c (And.intro @ros_c (And.intro @ros_l (And.intro @map_tk (And.intro @map_dr (And.intro @Nat.sub_zero (And.intro @List.drop_zero.{0} (And.intro @ov_fn (And.intro @oc_fn (And.intro @or_fn (And.intro @ap_some (And.intro @ap_none (And.intro @fx_nil (And.intro @fx_x (And.intro @fx_c (And.intro @fx_r (And.intro @fx_o (And.intro @oc_nil (And.intro @oc_sc (And.intro @oc_sl (And.intro @oc_tr (And.intro @oc_bp (And.intro @oc_de (And.intro @ov_sc (And.intro @ov_sl (And.intro @ov_tr (And.intro @ov_bp (And.intro @ov_de (And.intro @ov_ag (And.intro @ol_nil (And.intro @ol_cons (And.intro @or_sc (And.intro @or_sl (And.intro @or_tr (And.intro @or_bp (And.intro @or_de (And.intro @or_ag (And.intro @or_tu (And.intro @ac_ag (And.intro @ac_sc (And.intro @ac_sl (And.intro @ac_hd (And.intro @ac_bp (And.intro @ac_fn (And.intro @ae_f (And.intro @ae_t (And.intro @ae_i (And.intro @ae_b (And.intro @ae_s (And.intro @ae_l (And.intro @ae_p (And.intro @List.set_cons_succ.{0} (And.intro @List.set_cons_zero.{0} (And.intro @List.length_cons.{0} (And.intro @List.length_nil.{0} (And.intro @List.replicate_succ.{0} (And.intro @List.replicate_zero.{0} (And.intro @List.cons_append.{0} (And.intro @List.nil_append.{0} (And.intro @Nat.zero_add (And.intro @Nat.add_zero (And.intro @List.getD_cons_succ.{0} (And.intro @List.getD_cons_zero.{0} (And.intro @List.map_cons.{0,0} (And.intro @List.map_nil.{0,0} (And.intro @List.drop_succ_cons.{0} (And.intro @List.drop_zero.{0} (And.intro @List.take_succ_cons.{0} (And.intro @List.take_zero.{0} (And.intro @List.range_zero (And.intro @List.range_one (And.intro @Int.toNat_natCast (And.intro @Int.toNat_zero (And.intro @List.toList_toArray.{0} (And.intro @Nat.zero_mul @Nat.one_mul))))))))))))))))))))))))))))))))))))))))))))))))))))))))))))))))))))))))))))))))
end Go.Proofs.Ytkdbedbefojieaa
