/-
  For all bytes and every node (of bulk at most 1048576) the law MasterNil returns true, and each argument reads behind the call as it did. No other condition.
-/
import Derived.Test.YtmgneincjfhaoaaGreatZN1
import Derived.Test.YtmgneincjfhaoaaGreatZN2
import Derived.Test.YtmgneincjfhaoaaGreatZN3
import Derived.Test.YtmgneincjfhaoaaGreatZN4
import Derived.Test.YtmgneincjfhaoaaGreatZN5
import Derived.Test.YtmgneincjfhaoaaGreatZN6
import Derived.Deep.CondSized
namespace Go.Proofs.YtmgneincjfhaoaaGreat
set_option linter.unusedVariables false
set_option linter.unusedSimpArgs false
set_option maxHeartbeats 8000000
open Go.RowKit Go.ChangeShapes Go.WideShapes Go.ChangeAt Go.Deep
set_option maxRecDepth 100000
theorem same_z:AC Tryz.prog 23 [.ag (eC none cfg0),.ag (eC none cfg0)] [] (fun v bs'=>v=B true∧bs'=[]):=by
  refine AC.N Tryz.func23 Tryz.ntmps23 ?_
  intro X hρ hmks
  refine NX ?_
  refine W1 ?_
  refine cp_rounds 1 ?_
  refine W1 ?_
  (exact RetQ.A [] (by exact ⟨rfl,rfl⟩))
theorem masternil_ac (b:List UInt8) (n:Int):AC Tryz.prog 4 [bs none b,I n] [] (fun v bs'=>v=B true∧bs'=[]):=by
  by_cases hg:1000 < b.length
  · have sm:decide ((1000:Int) < (b.length:Int))=true:=by simp;omega
    refine AC.N Tryz.func4 Tryz.ntmps4 ?_
    intro X hρ hmks
    refine NX ?_
    refine W1 ?_
    (exact RetQ.A [] (by exact ⟨rfl,rfl⟩))
  · have d0:decide ((1000:Int) < (b.length:Int))=false:=by simp;omega
    have h1:=zadd_n n
    have h2:=zremove_n n
    have h3:=zget_n b
    have h4:=ztick_n
    have h5:=zconfig_n
    have h6:=same_z
    have h7:=mastawake_ac
    have w1:IntKind.i64.wrap (0 + 1)=1:=rfl
    have w2:IntKind.i64.wrap (1 + 1)=2:=rfl
    refine AC.N Tryz.func4 Tryz.ntmps4 ?_
    intro X hρ hmks
    refine NX ?_
    refine CP.SL ?_
    refine CP.SL ?_
    refine CP.SL ?_
    refine CP.SL ?_
    refine CP.SL ?_
    repeat' (first|((first|((with_reducible apply AP.k_any);first|refine AP.ST ?_|(refine AP.Y ?_;dsimp only)|refine AP.G (fun hg=>?_) (fun hg=>?_)|(refine AP.V (fun c hnil=>?_);simp only [nz])|refine AP.PF ?_))<;>(try simp only [d0,w1,w2,nq,Nat.reduceBEq,Nat.reduceAdd,Nat.reduceSub]))|refine CP.T2 ?_|((with_reducible apply CP.k_reg);refine cp_regG fun Q' hQ'=>?_)|((with_reducible apply CP.k_cond);refine cp_cond rfl (fun hc=>?_) (fun hc=>?_))|(simp only [List.append_eq,List.cons_append,List.nil_append]))
    refine cp_rounds 3 ?_
    repeat' (first|((first|((with_reducible apply AP.k_any);first|refine AP.ST ?_|(refine AP.Y ?_;dsimp only)|refine AP.G (fun hg=>?_) (fun hg=>?_)|(refine AP.V (fun c hnil=>?_);simp only [nz])|refine AP.PF ?_))<;>(try simp only [d0,w1,w2,nq,Nat.reduceBEq,Nat.reduceAdd,Nat.reduceSub]))|refine CP.T2 ?_|((with_reducible apply CP.k_reg);refine cp_regG fun Q' hQ'=>?_)|((with_reducible apply CP.k_cond);refine cp_cond rfl (fun hc=>?_) (fun hc=>?_))|(simp only [List.append_eq,List.cons_append,List.nil_append]))
    have h1:=zadd_z n
    have h2:=zremove_z n
    have h3:=zget_z b
    have h4:=ztick_z
    have h5:=zconfig_z
    repeat' (first|((first|((with_reducible apply AP.k_any);first|refine AP.ST ?_|(refine AP.Y ?_;dsimp only)|refine AP.G (fun hg=>?_) (fun hg=>?_)|(refine AP.V (fun c hnil=>?_);simp only [nz])|refine AP.PF ?_))<;>(try simp only [d0,w1,w2,nq,Nat.reduceBEq,Nat.reduceAdd,Nat.reduceSub]))|refine CP.T2 ?_|((with_reducible apply CP.k_reg);refine cp_regG fun Q' hQ'=>?_)|((with_reducible apply CP.k_cond);refine cp_cond rfl (fun hc=>?_) (fun hc=>?_))|(simp only [List.append_eq,List.cons_append,List.nil_append]))
    (exact RetQ.A [] (by exact ⟨rfl,rfl⟩))
set_option maxRecDepth 100000 in
theorem masterNil_lifted (os:Os) (started:os.Started) (H:Type) (enc:TypeId×Value→H) (F:Stop.Interp) :
    ReturnsInHanded {} Tryz.checked os 4 .any ((Rows.OpenSpec.upto Rows.masterNilSpec).pre6 enc Tryz.prog Tryz.f4 Rows.masterNilUptoRow.domain false) (((Rows.OpenSpec.upto Rows.masterNilSpec).at F).post enc Tryz.prog Tryz.f4 false true false false):=by
  refine returnsInHanded_of_cond (C:=Tryz.checked) (s:=Rows.OpenSpec.upto Rows.masterNilSpec) (k:=Rows.uptoSmall) rfl own_knob started (by kernel_rfl) Tryz.func4
    (OpenSpec.witness (enc:=enc) (C:=Tryz.checked) (s:=Rows.OpenSpec.upto Rows.masterNilSpec) (k:=Rows.uptoSmall) rfl false ⟨#[],#[.slice none 0 0,.int .i64 0],[]⟩ 8 (by kernel_rfl) (by kernel_rfl) (by kernel_rfl)
      (x:=([.nil,.lit (.int .i64 0)],[],[])) (by kernel_rfl) rfl (by kernel_rfl)) ?_
  intro W base args ds gs before hval0 hW _ hk _
  have hval:∀ (j:Nat) t v,Tryz.f4.params[j]? = some t→args[j]? = some v→Value.okWide Tryz.prog W .any base t v:=hval0
  have hW':=hW
  obtain ⟨p,q,hA0,hV,rfl,hfz,hnd⟩:=hW
  have hA:DataW.TrodAll enc Tryz.prog W 0 (fun _=>true) true Tryz.f4.params.toList args.toList ds p:=hA0
  rw [Tryz.params4] at hA hval
  obtain ⟨rfl,rfl⟩:=trodVars_none hV
  have hb:=bulk_of hk
  obtain ⟨v0,vs0,d0,ds0,p0,q0,hargs,rfl,rfl,h0,r0⟩:=trodAll_cons hA
  obtain ⟨v1,vs1,d1,ds1,p1,q1,rfl,rfl,rfl,h1,r1⟩:=trodAll_cons r0
  obtain ⟨rfl,rfl,rfl⟩:=trodAll_nil r1
  obtain rfl:args=#[v0,v1]:=by cases args;simp_all
  simp only [List.append_nil,Rows.uptoBulkAll,Nat.add_zero] at hb
  obtain ⟨b,hbk,hr0⟩:=arg_1 obs (cells_slice Tryz.underlying22 (hval 0 _ v0 rfl rfl)) h0
  obtain ⟨n,hn,hr1⟩:=arg_1 oi (cells_int Tryz.underlying3 (hval 1 _ v1 rfl rfl)) h1
  refine (ac_law (masternil_ac b n) (W:=W) (vs:=[v0,v1]) fun φ κ=>.cons (S:=Ct.z) (T:=Ct.z) (hr0 φ κ) (.cons (S:=Ct.z) (T:=Ct.z) (hr1 φ κ) .nil fun _=>rfl) fun _=>rfl).mono fun e W' ⟨he,hb⟩=>⟨_,he,?_⟩
  exact law_post laidOut rfl (by kernel_rfl) Tryz.underlying4 (by kernel_rfl) hW' (fun gs' h=>by subst h;rfl) hb
theorem masterNil_holds:Rows.MasterNilUptoSaid:=
  OpenClaim.holds_of_cond 4 Tryz.f4 rfl rfl rfl rfl rfl rfl rfl ⟨rfl,rfl,rfl,rfl,rfl⟩ rfl rfl rfl rfl rfl (by kernel_rfl) Tryz.func4 (by kernel_rfl)
    (of_decide_eq_true (by kernel_rfl)) (by unfold Func.isWrapper;first|(rw [if_pos (by decide +kernel)];kernel_rfl)|(rw [if_neg (by decide +kernel)];exact ⟨rfl,rfl⟩))
    (fun os started H enc _ F=>masterNil_lifted os started H enc F)
#print axioms masterNil_holds
end Go.Proofs.YtmgneincjfhaoaaGreat
