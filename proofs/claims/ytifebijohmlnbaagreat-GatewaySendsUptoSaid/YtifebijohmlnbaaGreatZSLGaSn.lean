/-
  For every root, number of nodes and acts (of bulk at most 1048576) the law GatewaySends returns true, and its arguments read behind the call as they did. No other condition.
-/
import Derived.Test.YtifebijohmlnbaaGreatZS1
import Derived.Test.YtifebijohmlnbaaGreatZS2
import Derived.Test.YtifebijohmlnbaaGreatZS3
import Derived.Test.YtifebijohmlnbaaGreatZS4
import Derived.Test.YtifebijohmlnbaaGreatZS5
import Derived.Test.YtifebijohmlnbaaGreatZS6
import Derived.Test.YtifebijohmlnbaaGreatZS7
import Derived.Test.YtifebijohmlnbaaGreatZS8
import Derived.Test.YtifebijohmlnbaaGreatZS9
import Derived.Test.YtifebijohmlnbaaGreatZS10
import Derived.Test.YtifebijohmlnbaaGreatZS11
import Derived.Test.YtifebijohmlnbaaGreatZS12
import Derived.Test.YtifebijohmlnbaaGreatZS13
import Derived.Test.YtifebijohmlnbaaGreatZS14
import Derived.Deep.CondSized
namespace Go.Proofs.YtifebijohmlnbaaGreat
set_option linter.unusedVariables false
set_option linter.unusedSimpArgs false
open Go.RowKit
set_option maxRecDepth 100000
set_option maxHeartbeats 8000000
section
open Go.RowKit Go.ChangeShapes Go.WideShapes Go.ChangeAt Go.Deep
set_option maxRecDepth 100000 in
theorem gatewaySends_lifted (os:Os) (started:os.Started) (H:Type) (enc:TypeId×Value→H) (F:Stop.Interp) :
 ReturnsInHanded {} Tryz.checked os 5 .any ((Rows.OpenSpec.upto Rows.gatewaySendsSpec).pre6 enc Tryz.prog Tryz.f5 Rows.gatewaySendsUptoRow.domain false) (((Rows.OpenSpec.upto Rows.gatewaySendsSpec).at F).post enc Tryz.prog Tryz.f5 false true false false):=by
 refine returnsInHanded_of_cond (C:=Tryz.checked) (s:=Rows.OpenSpec.upto Rows.gatewaySendsSpec) (k:=Rows.uptoSmall) rfl own_knob started (by kernel_rfl) Tryz.func5
  (OpenSpec.witness (enc:=enc) (C:=Tryz.checked) (s:=Rows.OpenSpec.upto Rows.gatewaySendsSpec) (k:=Rows.uptoSmall) rfl false ⟨#[],#[.slice none 0 0,.int .i64 0,.slice none 0 0],[]⟩ 8 (by kernel_rfl) (by kernel_rfl) (by kernel_rfl)
    (x:=([.nil,.lit (.int .i64 0),.nil],[],[])) (by kernel_rfl) rfl (by kernel_rfl)) ?_
 intro W base args ds gs before hval0 hW _ hk _;have hval:∀ (j:Nat) t v,Tryz.f5.params[j]? = some t→args[j]? = some v→Value.okWide Tryz.prog W .any base t v:=hval0;have hW':=hW;obtain ⟨p,q,hA0,hV,rfl,hfz,hnd⟩:=hW;have hA:DataW.TrodAll enc Tryz.prog W 0 (fun _=>true) true Tryz.f5.params.toList args.toList ds p:=hA0;rw [Tryz.params5] at hA hval;obtain ⟨rfl,rfl⟩:=trodVars_none hV;have hb:=bulk_of hk;obtain ⟨v0,vs0,d0,ds0,p0,q0,hargs,rfl,rfl,h0,r0⟩:=trodAll_cons hA;obtain ⟨v1,vs1,d1,ds1,p1,q1,rfl,rfl,rfl,h1,r1⟩:=trodAll_cons r0;obtain ⟨v2,vs2,d2,ds2,p2,q2,rfl,rfl,rfl,h2,r2⟩:=trodAll_cons r1;obtain ⟨rfl,rfl,rfl⟩:=trodAll_nil r2;obtain rfl:args=#[v0,v1,v2]:=by cases args;simp_all
 simp only [List.append_nil,Rows.uptoBulkAll,Nat.add_zero] at hb;obtain ⟨b,hbk,hr0⟩:=arg_1 obs (cells_slice Tryz.underlying22 (hval 0 _ v0 rfl rfl)) h0;obtain ⟨n,hn,hr1⟩:=arg_1 oi (cells_int Tryz.underlying3 (hval 1 _ v1 rfl rfl)) h1;obtain ⟨o,ho,hr2⟩:=arg_1 ogas (cells_slice Tryz.underlying23 (hval 2 _ v2 rfl rfl)) h2;refine (ac_law (sends_ac b n o gwawake_ac (by have:=ho.2;omega) (fun a ha=>okGa_small (by omega) (ho.1 a ha))) (W:=W) (vs:=[v0,v1,v2]) fun φ κ=>.cons (S:=Ct.z) (T:=Ct.z) (hr0 φ κ) (.cons (S:=Ct.z) (T:=Ct.z) (hr1 φ κ) (.cons (S:=Ct.z) (T:=Ct.z) (hr2 φ κ) .nil fun _=>rfl) fun _=>rfl) fun _=>rfl).mono fun e W' ⟨he,hb⟩=>⟨_,he,?_⟩
 exact law_post laidOut rfl (by kernel_rfl) Tryz.underlying4 (by kernel_rfl) hW' (fun gs' h=>by subst h;rfl) hb
theorem gatewaySends_holds:Rows.GatewaySendsUptoSaid:=
 OpenClaim.holds_of_cond 5 Tryz.f5 rfl rfl rfl rfl rfl rfl rfl ⟨rfl,rfl,rfl,rfl,rfl⟩ rfl rfl rfl rfl rfl (by kernel_rfl) Tryz.func5 (by kernel_rfl)
  (of_decide_eq_true (by kernel_rfl)) (by unfold Func.isWrapper;first|(rw [if_pos (by decide +kernel)];kernel_rfl)|(rw [if_neg (by decide +kernel)];exact ⟨rfl,rfl⟩))
  (fun os started H enc _ F=>gatewaySends_lifted os started H enc F)
#print axioms gatewaySends_holds
end
end Go.Proofs.YtifebijohmlnbaaGreat
