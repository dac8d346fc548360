/-
  Texts joined: G11, G13.
-/
import Derived.Test.YtifebijohmlnbaaGreatZS1
import Derived.Test.YtifebijohmlnbaaGreatZS2
import Derived.Test.YtifebijohmlnbaaGreatZS3
import Derived.Test.YtifebijohmlnbaaGreatZS4
import Derived.Test.YtifebijohmlnbaaGreatZS5
import Derived.Test.YtifebijohmlnbaaGreatZS6
import Derived.Test.YtifebijohmlnbaaGreatZS7
import Derived.Test.YtifebijohmlnbaaGreatZS8
import Derived.Test.YtifebijohmlnbaaGreatZS9
import Derived.Test.YtifebijohmlnbaaGreatZS10
namespace Go.Proofs.YtifebijohmlnbaaGreat
set_option linter.unusedVariables false
set_option linter.unusedSimpArgs false
open Go.RowKit
set_option maxRecDepth 100000
set_option maxHeartbeats 8000000
theorem reply_ac:AC Tryz.prog 38 [I 1,I 1,I 1] [] (fun v bs'=>v=.ag (eGa wA)∧bs'=[]):=by
 have h1:=prRp_ac 1;unfold wA wM6;generalize formN 1=b at *;refine AC.N Tryz.func38 Tryz.ntmps38 ?_;intro X hρ hmks;refine NX ?_;iterate 2 refine CP.SL ?_
 repeat' (first|((first|((with_reducible apply AP.k_any);first|refine AP.ST ?_|(refine AP.Y ?_;dsimp only)|refine AP.G (fun hg=>?_) (fun hg=>?_)|(refine AP.V (fun c hnil=>?_);simp only [nz])|refine AP.PF ?_))<;>(try simp only [nq,Nat.reduceBEq,Nat.reduceAdd,Nat.reduceSub]))|refine CP.TL ?_|((with_reducible apply CP.k_reg);refine cp_regG fun Q' hQ'=>?_)|((with_reducible apply CP.k_cond);refine cp_cond rfl (fun hc=>?_) (fun hc=>?_))|(simp only [List.append_eq,List.cons_append,List.nil_append]))
 (exact RetQ.A [] (by exact ⟨rfl,rfl⟩))
theorem wA_fine:wA.fine:=by
 have e:wA.m.body.length=141:=formN_len 1;exact ⟨Nat.zero_le _,by omega,Nat.zero_le _,Nat.zero_le _,Nat.zero_le _⟩
theorem wX0_ok:wX0.ok 0:=gw0_ok rtg (by decide) (k:=2) (by decide) (by decide)
theorem wX1_ok:wX1.ok 2:=by have:=(wX0_ok.submit 1 [97]).1;rwa [w1] at this
theorem wX2_ok:wX2.ok 6:=by have:=wX1_ok.tick.1;rwa [w5.2] at this
theorem wX3_ok:wX3.ok 10:=by have:=(wX2_ok.get (headS wPA ++ tagS rtg wPA)).1;rwa [w9] at this
theorem wX4_ok:wX4.ok 14:=by have:=(wX3_ok.get (headS wPB ++ tagS rtg wPB)).1;rwa [w10] at this
theorem wL1:Prs rtg ((prs rtg 10).set 1 wD1) 1:=by have:=(prs_fit rtg).pk wA;rwa [w7] at this
theorem gwawake_ac:AC Tryz.prog 13 [] [] (fun v bs'=>v=B true∧bs'=[]):=by
 have n1:AC Tryz.prog 8 [bs none rtg,I 2] [] (fun v bs'=>v=.tu [.bp 0 0 0,I 0]∧bs'=[gB wX0]):=gnew_ok rtg 2 (by decide) (by decide);have S1:=gsub_ac wX0 0 wX0_ok (by decide) 1 [97] (by decide);have S2:=gsub_ac wX1 2 wX1_ok (by decide) 1 [98] (by decide);have S3:=gsub_ac wX1 2 wX1_ok (by decide) 4 [97] (by decide);have V1:=gwaits_ac wX1 2 wX1_ok 1;have T1:=gtick_ac wX1 2 wX1_ok (by decide);have hl1:(headS wP1 ++ tagS rtg wP1).length≤60000:=by rw [List.length_append,headS_len,tagS_len];decide
 have hlA:(headS wPA ++ tagS rtg wPA).length≤60000:=by rw [List.length_append,headS_len,tagS_len];decide
 have hlB:(headS wPB ++ tagS rtg wPB).length≤60000:=by rw [List.length_append,headS_len,tagS_len];decide
 have P1:=parseP_ac (headS wP1 ++ tagS rtg wP1) (by omega);have Ps:=peers_ac rtg (by decide);have Rp:=reply_ac;have K1:=pk_ac wA (prs_fit rtg) (by decide) (by decide) wA_fine;have K2:=pk_ac wA wL1 (by decide) (by decide) wA_fine;have G1:=gget_ac wX2 6 (headS wPA ++ tagS rtg wPA) wX2_ok (by decide) hlA;have G2:=gget_ac wX3 10 (headS wPB ++ tagS rtg wPB) wX3_ok (by decide) hlB;have V2:=gwaits_ac wX4 14 wX4_ok 1;rw [w1] at S1;rw [w2] at S2;rw [w3] at S3;rw [w4] at V1;rw [show wX4.waits 1=(0,false) from rfl] at V2;have hT:=w5.1;rw [w5.2] at T1;rw [w6] at P1;rw [w7] at K1;rw [w8] at K2;rw [w9] at G1;rw [w10] at G2;dsimp only at S1 S2 S3 V1 V2 P1 K1 K2 G1 G2;have c1:(({ wP1 with tag:=tagS rtg wP1 }:Pkt).to == 0)=true:=rfl;have c2:(({ wP1 with tag:=tagS rtg wP1 }:Pkt).epoch == 1)=true:=rfl;have c3:((rpN 1).n == 1)=true:=rfl;clear hl1 hlA hlB;generalize ({ wP1 with tag:=tagS rtg wP1 }:Pkt)=q1 at *;generalize headS wP1 ++ tagS rtg wP1=b1 at *;generalize headS wPA ++ tagS rtg wPA=bA at *;generalize headS wPB ++ tagS rtg wPB=bB at *;generalize wX1.tick.1=LT at *;generalize wX0=X0 at *;generalize wX1=X1 at *;generalize wX2=X2 at *;generalize wX3=X3 at *;generalize wX4=X4 at *;generalize prs rtg 10=L0 at *;generalize L0.set 1 wD1=L1 at *;generalize L0.set 1 wD2=L2 at *;generalize wA=a at *;generalize rpN 1=r at *;refine AC.N Tryz.func13 Tryz.ntmps13 ?_;intro X hρ hmks;refine NX ?_
 repeat' (first|((first|((with_reducible apply AP.k_any);first|fail|((with_reducible apply AP.k_any);refine AP.B 1 (n1) ?_)|((with_reducible apply AP.k_any);refine AP.B 0 (S1) ?_)|((with_reducible apply AP.k_any);refine AP.B 0 (S2) ?_)|((with_reducible apply AP.k_any);refine AP.B 0 (S3) ?_)|((with_reducible apply AP.k_any);refine AP.B 0 (V1) ?_)|((with_reducible apply AP.k_any);refine AP.B 0 (T1) ?_)|((with_reducible apply AP.k_any);refine AP.B 0 (K1) ?_)|((with_reducible apply AP.k_any);refine AP.B 0 (G1) ?_)|((with_reducible apply AP.k_any);refine AP.B 0 (K2) ?_)|((with_reducible apply AP.k_any);refine AP.B 0 (G2) ?_)|((with_reducible apply AP.k_any);refine AP.B 0 (V2) ?_)|refine AP.CI ?_|refine AP.ST ?_|(refine AP.Y ?_;dsimp only)|refine AP.G (fun hg=>?_) (fun hg=>?_)|(refine AP.V (fun c hnil=>?_);simp only [nz])|refine AP.PF ?_))<;>(try simp only [c1,c2,c3,hT,nq,Nat.reduceBEq,Nat.reduceAdd,Nat.reduceSub]))|refine CP.TL ?_|((with_reducible apply CP.k_reg);refine cp_regG fun Q' hQ'=>?_)|((with_reducible apply CP.k_cond);refine cp_cond rfl (fun hc=>?_) (fun hc=>?_))|(simp only [List.append_eq,List.cons_append,List.nil_append]))
 (exact RetQ.A [] (by exact ⟨rfl,rfl⟩))
theorem wTake_cons (p:Int×List UInt8) (l:Wt) (k:Int):wTake (p :: l) k=if k=p.1 then l else p :: wTake l k:=by
 unfold wTake;simp only [atI]
 by_cases hk:k=p.1
 ·rw [if_pos hk,if_pos hk];rfl
 ·rw [if_neg hk,if_neg hk]
  cases atI k l with
  | none=>rfl
  | some n=>rfl
theorem wGet_take:∀ {l:Wt},l.nd→∀ k c:Int,wGet (wTake l k) c=if c=k then none else wGet l c
 | [],_,k,c=>by split<;>rfl
 | p :: l,hn,k,c=>by
  unfold Wt.nd at hn;rw [List.map_cons,List.nodup_cons] at hn;have hno:wGet l p.1=none:=wGet_none fun q hq e=>hn.1 (List.mem_map.2 ⟨q,hq,e⟩)
  have ih:=wGet_take (l:=l) hn.2 k c;rw [wTake_cons,wGet_cons]
  by_cases hk:k=p.1
  ·rw [if_pos hk]
   by_cases hc:c=k
   ·rw [if_pos hc,hc,hk,hno]
   ·rw [if_neg hc,if_neg (by rw [←hk];exact hc)]
  ·rw [if_neg hk,wGet_cons,ih]
   by_cases hc:c=p.1
   ·rw [if_pos hc,if_pos hc,if_neg (by rw [hc];exact fun h=>hk h.symm)]
   ·rw [if_neg hc,if_neg hc]
end Go.Proofs.YtifebijohmlnbaaGreat
