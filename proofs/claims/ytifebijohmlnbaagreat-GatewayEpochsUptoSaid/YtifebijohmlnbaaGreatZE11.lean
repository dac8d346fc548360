/-
  Texts joined: G11, BrE, G12.
-/
import Derived.Test.YtifebijohmlnbaaGreatZE1
import Derived.Test.YtifebijohmlnbaaGreatZE2
import Derived.Test.YtifebijohmlnbaaGreatZE3
import Derived.Test.YtifebijohmlnbaaGreatZE4
import Derived.Test.YtifebijohmlnbaaGreatZE5
import Derived.Test.YtifebijohmlnbaaGreatZE6
import Derived.Test.YtifebijohmlnbaaGreatZE7
import Derived.Test.YtifebijohmlnbaaGreatZE8
import Derived.Test.YtifebijohmlnbaaGreatZE9
import Derived.Test.YtifebijohmlnbaaGreatZE10
import Derived.Deep.CondSized
namespace Go.Proofs.YtifebijohmlnbaaGreat
set_option linter.unusedVariables false
set_option linter.unusedSimpArgs false
open Go.RowKit
set_option maxRecDepth 100000
set_option maxHeartbeats 8000000
theorem reply_ac:AC Tryz.prog 38 [I 1,I 1,I 1] [] (fun v bs'=>v=.ag (eGa wA)∧bs'=[]):=by
 have h1:=prRp_ac 1;unfold wA wM6;generalize formN 1=b at *;refine AC.N Tryz.func38 Tryz.ntmps38 ?_;intro X hρ hmks;refine NX ?_;iterate 2 refine CP.SL ?_
 repeat' (first|((first|((with_reducible apply AP.k_any);first|refine AP.ST ?_|(refine AP.Y ?_;dsimp only)|refine AP.G (fun hg=>?_) (fun hg=>?_)|(refine AP.V (fun c hnil=>?_);simp only [nz])|refine AP.PF ?_))<;>(try simp only [nq,Nat.reduceBEq,Nat.reduceAdd,Nat.reduceSub]))|refine CP.TL ?_|((with_reducible apply CP.k_reg);refine cp_regG fun Q' hQ'=>?_)|((with_reducible apply CP.k_cond);refine cp_cond rfl (fun hc=>?_) (fun hc=>?_))|(simp only [List.append_eq,List.cons_append,List.nil_append]))
 (exact RetQ.A [] (by exact ⟨rfl,rfl⟩))
theorem wA_fine:wA.fine:=by
 have e:wA.m.body.length=141:=formN_len 1;exact ⟨Nat.zero_le _,by omega,Nat.zero_le _,Nat.zero_le _,Nat.zero_le _⟩
theorem wX0_ok:wX0.ok 0:=gw0_ok rtg (by decide) (k:=2) (by decide) (by decide)
theorem wX1_ok:wX1.ok 2:=by have:=(wX0_ok.submit 1 [97]).1;rwa [w1] at this
theorem wX2_ok:wX2.ok 6:=by have:=wX1_ok.tick.1;rwa [w5.2] at this
theorem wX3_ok:wX3.ok 10:=by have:=(wX2_ok.get (headS wPA ++ tagS rtg wPA)).1;rwa [w9] at this
theorem wX4_ok:wX4.ok 14:=by have:=(wX3_ok.get (headS wPB ++ tagS rtg wPB)).1;rwa [w10] at this
theorem wL1:Prs rtg ((prs rtg 10).set 1 wD1) 1:=by have:=(prs_fit rtg).pk wA;rwa [w7] at this
theorem gwawake_ac:AC Tryz.prog 13 [] [] (fun v bs'=>v=B true∧bs'=[]):=by
 have n1:AC Tryz.prog 8 [bs none rtg,I 2] [] (fun v bs'=>v=.tu [.bp 0 0 0,I 0]∧bs'=[gB wX0]):=gnew_ok rtg 2 (by decide) (by decide);have S1:=gsub_ac wX0 0 wX0_ok (by decide) 1 [97] (by decide);have S2:=gsub_ac wX1 2 wX1_ok (by decide) 1 [98] (by decide);have S3:=gsub_ac wX1 2 wX1_ok (by decide) 4 [97] (by decide);have V1:=gwaits_ac wX1 2 wX1_ok 1;have T1:=gtick_ac wX1 2 wX1_ok (by decide);have hl1:(headS wP1 ++ tagS rtg wP1).length≤60000:=by rw [List.length_append,headS_len,tagS_len];decide
 have hlA:(headS wPA ++ tagS rtg wPA).length≤60000:=by rw [List.length_append,headS_len,tagS_len];decide
 have hlB:(headS wPB ++ tagS rtg wPB).length≤60000:=by rw [List.length_append,headS_len,tagS_len];decide
 have P1:=parseP_ac (headS wP1 ++ tagS rtg wP1) (by omega);have Ps:=peers_ac rtg (by decide);have Rp:=reply_ac;have K1:=pk_ac wA (prs_fit rtg) (by decide) (by decide) wA_fine;have K2:=pk_ac wA wL1 (by decide) (by decide) wA_fine;have G1:=gget_ac wX2 6 (headS wPA ++ tagS rtg wPA) wX2_ok (by decide) hlA;have G2:=gget_ac wX3 10 (headS wPB ++ tagS rtg wPB) wX3_ok (by decide) hlB;have V2:=gwaits_ac wX4 14 wX4_ok 1;rw [w1] at S1;rw [w2] at S2;rw [w3] at S3;rw [w4] at V1;rw [show wX4.waits 1=(0,false) from rfl] at V2;have hT:=w5.1;rw [w5.2] at T1;rw [w6] at P1;rw [w7] at K1;rw [w8] at K2;rw [w9] at G1;rw [w10] at G2;dsimp only at S1 S2 S3 V1 V2 P1 K1 K2 G1 G2;have c1:(({ wP1 with tag:=tagS rtg wP1 }:Pkt).to == 0)=true:=rfl;have c2:(({ wP1 with tag:=tagS rtg wP1 }:Pkt).epoch == 1)=true:=rfl;have c3:((rpN 1).n == 1)=true:=rfl;clear hl1 hlA hlB;generalize ({ wP1 with tag:=tagS rtg wP1 }:Pkt)=q1 at *;generalize headS wP1 ++ tagS rtg wP1=b1 at *;generalize headS wPA ++ tagS rtg wPA=bA at *;generalize headS wPB ++ tagS rtg wPB=bB at *;generalize wX1.tick.1=LT at *;generalize wX0=X0 at *;generalize wX1=X1 at *;generalize wX2=X2 at *;generalize wX3=X3 at *;generalize wX4=X4 at *;generalize prs rtg 10=L0 at *;generalize L0.set 1 wD1=L1 at *;generalize L0.set 1 wD2=L2 at *;generalize wA=a at *;generalize rpN 1=r at *;refine AC.N Tryz.func13 Tryz.ntmps13 ?_;intro X hρ hmks;refine NX ?_
 repeat' (first|((first|((with_reducible apply AP.k_any);first|fail|((with_reducible apply AP.k_any);refine AP.B 1 (n1) ?_)|((with_reducible apply AP.k_any);refine AP.B 0 (S1) ?_)|((with_reducible apply AP.k_any);refine AP.B 0 (S2) ?_)|((with_reducible apply AP.k_any);refine AP.B 0 (S3) ?_)|((with_reducible apply AP.k_any);refine AP.B 0 (V1) ?_)|((with_reducible apply AP.k_any);refine AP.B 0 (T1) ?_)|((with_reducible apply AP.k_any);refine AP.B 0 (K1) ?_)|((with_reducible apply AP.k_any);refine AP.B 0 (G1) ?_)|((with_reducible apply AP.k_any);refine AP.B 0 (K2) ?_)|((with_reducible apply AP.k_any);refine AP.B 0 (G2) ?_)|((with_reducible apply AP.k_any);refine AP.B 0 (V2) ?_)|refine AP.CI ?_|refine AP.ST ?_|(refine AP.Y ?_;dsimp only)|refine AP.G (fun hg=>?_) (fun hg=>?_)|(refine AP.V (fun c hnil=>?_);simp only [nz])|refine AP.PF ?_))<;>(try simp only [c1,c2,c3,hT,nq,Nat.reduceBEq,Nat.reduceAdd,Nat.reduceSub]))|refine CP.TL ?_|((with_reducible apply CP.k_reg);refine cp_regG fun Q' hQ'=>?_)|((with_reducible apply CP.k_cond);refine cp_cond rfl (fun hc=>?_) (fun hc=>?_))|(simp only [List.append_eq,List.cons_append,List.nil_append]))
 (exact RetQ.A [] (by exact ⟨rfl,rfl⟩))
section
open Go.RowKit Go.ChangeShapes Go.WideShapes Go.ChangeAt Go.Deep
theorem om:OA Tryz.prog 73 3 (fun _ m=>I64 m.node∧I64 m.since) eM:=
 (oa_struct Tryz.underlying73 (by kernel_rfl) (of_cons rfl oi (of_cons rfl oi (of_cons rfl obl of_nil)))).map (fun d=>⟨d.1,d.2.1,d.2.2.1⟩) (fun _ _ _ _ h=>h) (fun _ _ h=>⟨h.1,h.2.1⟩) fun _=>rfl
theorem oms:OA Tryz.prog 35 1 (fun N (l:List Member)=>(∀ m∈l,I64 m.node∧I64 m.since)∧l.length < N) (fun l=>[ms none l]):=oa_slice (by decide) Tryz.underlying35 (by kernel_rfl) om
def okC (N:Nat) (c:Config):Prop:=I64 c.epoch∧(∀ m∈c.members,I64 m.node∧I64 m.since)∧c.members.length < N
theorem okC.up {m n:Nat} {c:Config} (h:m≤n) (k:okC m c):okC n c:=⟨k.1,k.2.1,Nat.lt_of_lt_of_le k.2.2 h⟩
theorem ocf:OA Tryz.prog 37 2 okC (eC none):=
 (oa_struct Tryz.underlying37 (by kernel_rfl) (of_cons rfl oi (of_cons rfl oms of_nil))).map (fun d=>⟨d.1,d.2.1⟩) (fun _ _ _=>okC.up) (fun _ _ h=>⟨h.1,h.2.1.1,h.2.1.2⟩) fun _=>rfl
def okE (N:Nat) (e:Entry):Prop:=I64 e.pos∧I64 e.stamp∧I64 e.client∧I64 e.id∧e.body.length < N
theorem okE.up {m n:Nat} {e:Entry} (h:m≤n) (k:okE m e):okE n e:=⟨k.1,k.2.1,k.2.2.1,k.2.2.2.1,Nat.lt_of_lt_of_le k.2.2.2.2 h⟩
theorem oen:OA Tryz.prog 75 5 okE (eE none):=
 (oa_struct Tryz.underlying75 (by kernel_rfl) (of_cons rfl oi (of_cons rfl oi (of_cons rfl oi (of_cons rfl oi (of_cons rfl obs of_nil)))))).map (fun d=>⟨d.1,d.2.1,d.2.2.1,d.2.2.2.1,d.2.2.2.2.1⟩) (fun _ _ _=>okE.up) (fun _ _ h=>⟨h.1,h.2.1,h.2.2.1,h.2.2.2.1,h.2.2.2.2.1.2⟩) fun _=>rfl
end
section
open Go.RowKit Go.ChangeShapes Go.WideShapes Go.ChangeAt Go.Deep
theorem oens':OA Tryz.prog 34 1 (fun N (l:List Entry)=>(∀ e∈l,okE N e)∧l.length < N) (fun l=>[es none none l]):=oa_slice (by decide) Tryz.underlying34 (by kernel_rfl) oen
def okM0 (N:Nat) (m:Msg):Prop:=m.body.length < N∧m.entries.length < N∧m.cfg.members.length < N∧∀ e∈m.entries,e.body.length < N
theorem omg0:OA Tryz.prog 39 12 okM0 eG:=
 (oa_struct Tryz.underlying39 (by kernel_rfl) (of_cons rfl ou (of_cons rfl oi (of_cons rfl oi (of_cons rfl obs (of_cons rfl oi (of_cons rfl oi (of_cons rfl oens' (of_cons rfl oi (of_cons rfl oi (of_cons rfl ocf (of_cons rfl oi of_nil)))))))))))).map
   (fun d=>⟨d.1,d.2.1,d.2.2.1,d.2.2.2.1,d.2.2.2.2.1,d.2.2.2.2.2.1,d.2.2.2.2.2.2.1,d.2.2.2.2.2.2.2.1,d.2.2.2.2.2.2.2.2.1,d.2.2.2.2.2.2.2.2.2.1,d.2.2.2.2.2.2.2.2.2.2.1⟩) (fun _ _ _ hmn h=>⟨by have:=h.1;omega,by have:=h.2.1;omega,by have:=h.2.2.1;omega,fun e he=>by have:=h.2.2.2 e he;omega⟩)
   (fun n d h=>by
     obtain ⟨_,h1,h2,h3,h4,h5,h6,h7,h8,h9,h10,_⟩:=h;exact ⟨h3.2,h6.2,h9.2.2,fun e he=>(h6.1 e he).2.2.2.2⟩) fun _=>rfl
def okGa (N:Nat) (a:Ga):Prop:=a.body.length < N∧okM0 N a.m
theorem oga:OA Tryz.prog 41 17 okGa eGa:=
 (oa_struct Tryz.underlying41 (by kernel_rfl) (of_cons rfl oi (of_cons rfl oi (of_cons rfl obs (of_cons rfl oi (of_cons rfl oi (of_cons rfl omg0 of_nil))))))).map
   (fun d=>(⟨d.1,d.2.1,d.2.2.1,d.2.2.2.1,d.2.2.2.2.1,d.2.2.2.2.2.1⟩:Ga)) (fun _ _ _ hmn h=>⟨by have:=h.1;omega,by have:=h.2.1;omega,by have:=h.2.2.1;omega,by have:=h.2.2.2.1;omega,fun e he=>by have:=h.2.2.2.2 e he;omega⟩)
   (fun n d h=>⟨h.2.2.1.2,h.2.2.2.2.2.1⟩) fun _=>rfl
theorem ogas:OA Tryz.prog 23 1 (fun N (l:List Ga)=>(∀ a∈l,okGa N a)∧l.length < N) (fun l=>[.sl none 17 (l.map eGa)]):=oa_slice (by decide) Tryz.underlying23 (by kernel_rfl) oga
theorem okGa_small {N:Nat} (hN:N≤10000000) {a:Ga} (h:okGa N a):a.small:=by
 obtain ⟨k1,k2,k3,k4,k5⟩:=h;exact ⟨by omega,by omega,by omega,by omega,fun e he=>by have:=k5 e he;omega⟩
end
end Go.Proofs.YtifebijohmlnbaaGreat
