/- Parts. -/
import Derived.Test.YtnjllcnjcpfbhaaGreatZS43
namespace Go.Proofs.YtnjllcnjcpfbhaaGreat
set_option linter.unusedVariables false
set_option linter.unusedSimpArgs false
open Go.RowKit Go.Proofs.Tryz
set_option maxRecDepth 100000
set_option maxHeartbeats 8000000
abbrev root1:List UInt8:=List.replicate 32 1
theorem inv_w (L:List Lnk) (h:L.length<=3) (hs:∀ x∈L,x.self.length=32):Inv 3 { w1 with links:=L }/\Inv 3 { w2 with links:=L }/\Inv 3 { w3 with links:=L }/\Inv 3 { w4 with links:=L }:=
 ⟨⟨(may_w L).2.1,h,hs,fun x hx=>by cases hx⟩,⟨(may_w L).2.2.1,h,hs,fun x hx=>by cases hx⟩,⟨(may_w L).2.2.2.1,h,hs,fun x hx=>by cases hx⟩,⟨(may_w L).2.2.2.2,h,hs,fun x hx=>by cases hx⟩⟩
theorem lk_ok:(lkA.length<=3/\∀ x∈lkA,x.self.length=32)/\(lkB.length<=3/\∀ x∈lkB,x.self.length=32)/\(lkC.length<=3/\∀ x∈lkC,x.self.length=32):=by
 have hA:=addL_ok (l:=[]) (fun x hx=>by cases hx) 1 6 1 4 100 0;have hB:=addL_ok hA.1 2 8 1 7 50 1;have hC:=addL_ok hB.1 49 9 1 1 0 0;have lA:lkA.length=([]:List Lnk).length + 1:=hA.2;have lB:lkB.length=lkA.length + 1:=hB.2;have lC:lkC.length=lkB.length + 1:=hC.2;rw [List.length_nil] at lA;exact ⟨⟨by omega,hA.1⟩,⟨by omega,hB.1⟩,⟨by omega,hC.1⟩⟩
theorem awake_x {root:List UInt8} {A O:Tok} {s0 s1 s2 s3 s4:St} {Ra Rb Rc Rd Rf Rg Rh Ri Rj Rk:Rep} (hr:root=List.replicate 32 1)
 (a0:AF 24 [bs none root] (.ag (eTok A)))
 (a1:AF 22 [] (.ag (eSt s0)))
 (a2:AF 14 [bs none Rb.val] (.tu [.ag (eTok O),I 0]))
 (ca:True->AF 25 [bs none root,.ag (eSt s0),.ag (eTok A),I 1,.ag (eRq qCre)] (.tu [.ag (eSt s1),.ag (eRp Ra)]))
 (cb:True->AF 25 [bs none root,.ag (eSt s1),.ag (eTok A),I 2,.ag (eRq qGnt)] (.tu [.ag (eSt s2),.ag (eRp Rb)]))
 (cc:True->AF 25 [bs none root,.ag (eSt s2),.ag (eTok O),I 49,.ag (eRq qPut)] (.tu [.ag (eSt s3),.ag (eRp Rc)]))
 (cd:True->AF 25 [bs none root,.ag (eSt s3),.ag (eTok O),I 49,.ag (eRq qGet)] (.tu [.ag (eSt s3),.ag (eRp Rd)]))
 (cf:True->AF 25 [bs none root,.ag (eSt s3),.ag (eTok O),I 50,.ag (eRq qPut2)] (.tu [.ag (eSt s3),.ag (eRp Rf)]))
 (cg:True->AF 25 [bs none root,.ag (eSt s3),.ag (eTok O),I 49,.ag (eRq qCre2)] (.tu [.ag (eSt s3),.ag (eRp Rg)]))
 (ch:True->AF 25 [bs none root,.ag (eSt s3),.ag (eTok A),I 49,.ag (eRq qRev)] (.tu [.ag (eSt s4),.ag (eRp Rh)]))
 (ci:True->AF 25 [bs none root,.ag (eSt s4),.ag (eTok O),I 49,.ag (eRq qGet)] (.tu [.ag (eSt s4),.ag (eRp Ri)]))
 (cj:True->AF 25 [bs none root,.ag (eSt s4),.ag (eTok A),I 49,.ag (eRq (qAud 3))] (.tu [.ag (eSt s4),.ag (eRp Rj)]))
 (ck:True->AF 25 [bs none root,.ag (eSt s4),.ag (eTok A),I 49,.ag (eRq (qAud 4))] (.tu [.ag (eSt s4),.ag (eRp Rk)]))
 (ha:Ra.err=0) (hb:Rb.err=0) (hbn:Rb.n=1) (hTB:(⟨Rb.val.toArray⟩:ByteArray).size<=1000000) (hc:Rc.err=0) (hd:Rd.val=k1) (hf:Rf.err=92) (hg:Rg.err=94) (hh:Rh.err=0) (hi:Ri.err=93) (hj:Rj.lnk.op=9) (hjn:Rj.lnk.n=3) (hk:Rk.err=130) :
 AF 8 [] (B true):=by
 have f1:(Ra.err != 0)=false:=by rw [ha];rfl
 have f2:(Rb.err != 0)=false:=by rw [hb];rfl
 have f3:(Rb.n != 1)=false:=by rw [hbn];rfl
 have f4:(Rc.err == 0)=true:=by rw [hc];rfl
 have f5:decide (Rd.val=[49])=true:=by rw [hd];rfl
 have f6:(Rf.err == 92)=true:=by rw [hf];rfl
 have f7:(Rg.err == 94)=true:=by rw [hg];rfl
 have f8:(Rh.err == 0)=true:=by rw [hh];rfl
 have f9:(Ri.err == 93)=true:=by rw [hi];rfl
 have f10:((Rj.lnk.op.toNat:Int) == 9)=true:=by rw [hj];rfl
 have f11:(Rj.lnk.n == 3)=true:=by rw [hjn];rfl
 have f12:(Rk.err == 130)=true:=by rw [hk];rfl
 have f0:((0:Int) != 0)=false:=rfl;clear ha hb hbn hc hd hf hg hh hi hj hjn hk;refine AC.E func8 ntmps8 ?_;intro X hρ hmks
 repeat' (first|((first|refine wA1 ?_|(refine GA ?_ ?_<;>intro hg)|(refine GV ?_;intros;simp only [nz])|((with_reducible apply AP.k_any);refine ap_makeS (n:=32) rfl rfl rfl rfl rfl rfl rfl rfl rfl rfl rfl (by omega) ?_)|refine wA6 ?_|refine wD4 ?_|((with_reducible apply DW.k_any);refine DW.known rfl ?_;(with_reducible first|apply DW.sx 2);(iterate 2 (focus (simp only [ft,nm,Nat.reduceAdd,Nat.reduceBEq,List.getElem?_cons_zero,List.getElem?_cons_succ];exact rfl)));(focus (intro X V;simp only [ft,nm,Nat.reduceAdd,Nat.reduceBEq];(try (refine AP.Y ?_;dsimp only));(first|refine ap_makeS (n:=32) rfl rfl rfl rfl rfl rfl rfl rfl rfl rfl rfl (by omega) ?_|fail);(try refine NX ?_);refine AP.nil ?_;(first|refine ⟨trivial,rfl,?_⟩|refine ⟨rfl,rfl,?_⟩);(repeat' (first|exact Mg.nil|apply Mg.keep rfl|apply Mg.take rfl));done));(focus (refine Exists.intro (fun _=>0) ?_;apply Exists.intro;(repeat' (first|exact Mg.nil|apply Mg.keep rfl|apply Mg.take rfl));done));(iterate 2 (focus (exact rfl)))))<;>try refine NQ ?_)|refine wT6 ?_|with_reducible intro Q' hQ'|(refine GC ?_ ?_<;>intro hc)|simp only [laq])
 refine cp_loopS [2,24,25,26,27,28,29,30,31,32] (fun a:Nat=>32 - a) (fun a=>a<=32) (fun a=>[(2,I a)]) (fun a=>[(0,⟨1,.r tU 1 ((List.replicate a (1:UInt8) ++ List.replicate (32 - a) 0).map eB)⟩)]) 0 (Nat.zero_le _) (by exact Gh.W) ?_;intro a ha;refine ST0 ?_
 by_cases hlt:a < 32
 ·have hlen:((List.replicate a (1:UInt8) ++ List.replicate (32 - a) 0).map eB).length=32:=by simp;omega
  have q1:decide ((a:Int) < ((32:Nat):Int))=true:=decide_eq_true (by omega);have w1:IntKind.i64.wrap ((a:Int) + 1)=((a + 1:Nat):Int):=wrap_i64 (by omega) (by omega)
  have hset:((List.replicate a (1:UInt8) ++ List.replicate (32 - a) 0).map eB).set a [.sc (.int .u8 1)]=(List.replicate (a + 1) (1:UInt8) ++ List.replicate (32 - (a + 1)) 0).map eB:=by
   rw [show ([.sc (.int .u8 1)]:List AV)=eB 1 from rfl,←List.map_set]
   congr 1
   rw [List.set_append_right _ _ (by simp),List.length_replicate,Nat.sub_self,show 32 - a=(32 - (a + 1)) + 1 by omega,List.replicate_succ,List.set_cons_zero,List.replicate_succ',List.append_assoc];rfl
  have hr:((List.replicate a (1:UInt8) ++ List.replicate (32 - a) 0).map eB)[a]? = some (eB 0):=by
   rw [List.getElem?_map,List.getElem?_append_right (by simp),List.getElem?_replicate,if_pos (by simp;omega)];rfl
  clear a0 a1 a2
  repeat' (first|((first|refine wA1 ?_|(refine GA ?_ ?_<;>intro hg)|(refine GV ?_;intros;simp only [nz])|refine wA6 ?_)<;>(try simp only [q1,w1,hset,hlen,nq,Nat.reduceBEq,Nat.reduceAdd,Nat.reduceSub]))|refine wT8 ?_|with_reducible intro Q' hQ'|(refine GC ?_ ?_<;>intro hc)|simp only [laq])
  exact ⟨a + 1,by omega,by omega,by exact Gh.W⟩
 ·obtain rfl:a=32:=by omega
  have e1:(List.replicate 32 (1:UInt8) ++ List.replicate (32 - 32) 0).map eB=root.map eB:=by rw [hr];simp
  have hlen:(root.map eB).length=32:=by rw [hr];simp
  rw [e1];clear hr;have q0:decide (((32:Nat):Int) < ((32:Nat):Int))=false:=rfl;refine CP.gh (gh_fzS (b:=0) rfl) ?_;simp only [ro_B,nq,Nat.reduceBEq,Nat.reduceAdd,Nat.reduceSub]
  repeat' (first|((first|refine wA1 ?_|(refine GA ?_ ?_<;>intro hg)|(refine GV ?_;intros;simp only [nz])|refine wA6 ?_)<;>(try simp only [q0,hlen,nq,Nat.reduceBEq,Nat.reduceAdd,Nat.reduceSub]))|refine wT8 ?_|with_reducible intro Q' hQ'|(refine GC ?_ ?_<;>intro hc)|simp only [laq])
  iterate 2 refine CP.SL ?_
  have c:=ca trivial
  first|refine cp_drwX fun Q' hQ'=>?_|refine cp_drawX ?_
  iterate 12 refine DS0 ?_
  repeat' (first|((first|refine wA1 ?_|(refine GA ?_ ?_<;>intro hg)|(refine GV ?_;intros;simp only [nz])|refine wA6 ?_)<;>try refine NQ ?_)|refine wT8 ?_|with_reducible intro Q' hQ'|(refine GC ?_ ?_<;>intro hc)|simp only [laq])
  clear c a0 a1 ca;have c:=cb trivial
  repeat' (first|((first|refine wA1 ?_|(refine GA ?_ ?_<;>intro hg)|(refine GV ?_;intros;simp only [nz])|refine wA6 ?_)<;>try refine NQ ?_)|refine wT8 ?_|with_reducible intro Q' hQ'|(refine GC ?_ ?_<;>intro hc)|simp only [laq])
  clear c cb;have c:=cc trivial
  repeat' (first|((first|refine wA1 ?_|(refine GA ?_ ?_<;>intro hg)|(refine GV ?_;intros;simp only [nz])|refine wA5 ?_|refine wA6 ?_)<;>(try simp only [f1,f2,f3,f0,nq,Nat.reduceBEq,Nat.reduceAdd,Nat.reduceSub]))|refine wT8 ?_|with_reducible intro Q' hQ'|(refine GC ?_ ?_<;>intro hc)|simp only [laq])
  clear c cc a2;have c:=cd trivial
  repeat' (first|((first|refine wA1 ?_|(refine GA ?_ ?_<;>intro hg)|(refine GV ?_;intros;simp only [nz])|refine wA6 ?_)<;>try refine NQ ?_)|refine wT8 ?_|with_reducible intro Q' hQ'|(refine GC ?_ ?_<;>intro hc)|simp only [laq])
  clear c cd;have c:=cf trivial
  repeat' (first|((first|refine wA1 ?_|(refine GA ?_ ?_<;>intro hg)|(refine GV ?_;intros;simp only [nz])|refine wA6 ?_)<;>try refine NQ ?_)|refine wT8 ?_|with_reducible intro Q' hQ'|(refine GC ?_ ?_<;>intro hc)|simp only [laq])
  clear c cf;have c:=cg trivial
  repeat' (first|((first|refine wA1 ?_|(refine GA ?_ ?_<;>intro hg)|(refine GV ?_;intros;simp only [nz])|refine wA6 ?_)<;>try refine NQ ?_)|refine wT8 ?_|with_reducible intro Q' hQ'|(refine GC ?_ ?_<;>intro hc)|simp only [laq])
  clear c cg;have c:=ch trivial
  repeat' (first|((first|refine wA1 ?_|(refine GA ?_ ?_<;>intro hg)|(refine GV ?_;intros;simp only [nz])|refine wA6 ?_)<;>try refine NQ ?_)|refine wT8 ?_|with_reducible intro Q' hQ'|(refine GC ?_ ?_<;>intro hc)|simp only [laq])
  clear c ch;have c:=ci trivial
  repeat' (first|((first|refine wA1 ?_|(refine GA ?_ ?_<;>intro hg)|(refine GV ?_;intros;simp only [nz])|refine wA6 ?_)<;>try refine NQ ?_)|refine wT8 ?_|with_reducible intro Q' hQ'|(refine GC ?_ ?_<;>intro hc)|simp only [laq])
  clear c ci;have c:=cj trivial
  repeat' (first|((first|refine wA1 ?_|(refine GA ?_ ?_<;>intro hg)|(refine GV ?_;intros;simp only [nz])|refine wA6 ?_)<;>try refine NQ ?_)|refine wT8 ?_|with_reducible intro Q' hQ'|(refine GC ?_ ?_<;>intro hc)|simp only [laq])
  clear c cj;have c:=ck trivial
  repeat' (first|((first|refine wA1 ?_|(refine GA ?_ ?_<;>intro hg)|(refine GV ?_;intros;simp only [nz])|refine wA5 ?_|refine wA6 ?_|refine wD4 ?_|((with_reducible apply DW.k_any);refine DW.known rfl ?_;(with_reducible first|apply DW.sx 2);(iterate 2 (focus (simp only [ft,nm,Nat.reduceAdd,Nat.reduceBEq,List.getElem?_cons_zero,List.getElem?_cons_succ];exact rfl)));(focus (intro X V;simp only [ft,nm,Nat.reduceAdd,Nat.reduceBEq];(try (refine AP.Y ?_;dsimp only));(first|refine AP.SS ?_|fail);(try refine NX ?_);refine AP.nil ?_;(first|refine ⟨trivial,rfl,?_⟩|refine ⟨rfl,rfl,?_⟩);(repeat' (first|exact Mg.nil|apply Mg.keep rfl|apply Mg.take rfl));done));(focus (refine Exists.intro (fun _=>0) ?_;apply Exists.intro;(repeat' (first|exact Mg.nil|apply Mg.keep rfl|apply Mg.take rfl));done));(iterate 2 (focus (exact rfl)))))<;>(try simp only [f4,f5,f6,f7,f8,f9,f10,f11,f12,nq,Nat.reduceBEq,Nat.reduceAdd,Nat.reduceSub]))|refine wT6 ?_|with_reducible intro Q' hQ'|(refine GC ?_ ?_<;>intro hc)|simp only [laq])
  exact RA0
