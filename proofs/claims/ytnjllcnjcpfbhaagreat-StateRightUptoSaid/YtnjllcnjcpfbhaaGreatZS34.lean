/- Parts. -/
import Derived.Test.YtnjllcnjcpfbhaaGreatZS31
namespace Go.Proofs.YtnjllcnjcpfbhaaGreat
set_option linter.unusedVariables false
set_option linter.unusedSimpArgs false
open Go.RowKit Go.Proofs.Tryz
set_option maxRecDepth 100000
set_option maxHeartbeats 8000000
def req0:Req:=⟨0,[],[],[],[],0,0,0,0,⟨0,0,0⟩⟩
theorem parseRqQ (b:List UInt8) (hb:b.length<=1024) (s0 s1 s2 s3 s4 s5 t1 t2 t3 t4 t5 t6 t7:Rw) (op:UInt8) (tok key val old:List UInt8) (n ten keys spc:Int) (rts:UInt8) (ex se:Int) (ee:Int) (mm:Bool) (R:Req×Int)
 (h0:AC prog 33 [bs none b] [] (fun v bs'=>v=.bp 0 0 0/\bs'=[rB s0]))
 (i0:AC prog 34 [.bp 0 0 0] [rB s0] (fun v bs'=>v=U op/\bs'=[rB s1]))
 (i1:AC prog 35 [.bp 0 0 0] [rB s1] (fun v bs'=>v=bs none tok/\bs'=[rB s2]))
 (i2:AC prog 36 [.bp 0 0 0] [rB s2] (fun v bs'=>v=S key/\bs'=[rB s3]))
 (i3:AC prog 36 [.bp 0 0 0] [rB s3] (fun v bs'=>v=S val/\bs'=[rB s4]))
 (i4:AC prog 36 [.bp 0 0 0] [rB s4] (fun v bs'=>v=S old/\bs'=[rB s5]))
 (j1:AC prog 37 [.bp 0 0 0] [rB s5] (fun v bs'=>v=I n/\bs'=[rB t1]))
 (j2:AC prog 37 [.bp 0 0 0] [rB t1] (fun v bs'=>v=I ten/\bs'=[rB t2]))
 (j3:AC prog 37 [.bp 0 0 0] [rB t2] (fun v bs'=>v=I keys/\bs'=[rB t3]))
 (j4:AC prog 37 [.bp 0 0 0] [rB t3] (fun v bs'=>v=I spc/\bs'=[rB t4]))
 (j5:AC prog 34 [.bp 0 0 0] [rB t4] (fun v bs'=>v=U rts/\bs'=[rB t5]))
 (j6:AC prog 37 [.bp 0 0 0] [rB t5] (fun v bs'=>v=I ex/\bs'=[rB t6]))
 (j7:AC prog 37 [.bp 0 0 0] [rB t6] (fun v bs'=>v=I se/\bs'=[rB t7]))
 (k3:AC prog 38 [.bp 0 0 0] [rB t7] (fun v bs'=>v=I ee/\bs'=[rB t7]))
 (k4:AF 39 [.ag (eRq ⟨op,tok,key,val,old,n,ten,keys,spc,⟨rts,ex,se⟩⟩)] (B mm))
 (hR:R=if ee=0/\mm=true then (⟨op,tok,key,val,old,n,ten,keys,spc,⟨rts,ex,se⟩⟩,0) else (req0,150)) :
 AF 12 [bs none b] (.tu [.ag (eRq R.1),I R.2]):=by
 have q0:decide ((1024:Int) < (b.length:Int))=false:=decide_eq_false (by omega)
 by_cases hg:ee=0/\mm=true
 ·rw [if_pos hg] at hR;subst hR;obtain ⟨rfl,rfl⟩:=hg;have q3:((0:Int) != 0)=false:=rfl;refine AC.E func12 ntmps12 ?_;intros;iterate 3 refine CP.SL ?_
  repeat' (first|((first|refine aC3 h0 ?_|refine aC4 i0 ?_|refine aC4 i1 ?_|refine aC4 i2 ?_|refine aC4 i3 ?_|refine aC4 i4 ?_|refine aC4 j1 ?_|refine aC4 j2 ?_|refine aC4 j3 ?_|refine aC4 j4 ?_|refine aC4 j5 ?_|refine aC4 j6 ?_|refine aC4 j7 ?_|refine aC4 k3 ?_|refine aC1 k4 ?_|refine wA1 ?_|(refine GA ?_ ?_<;>intro hg)|(refine GV ?_;intros;simp only [nz])|refine wA6 ?_)<;>(try simp only [q0,q3,nq,Nat.reduceBEq,Nat.reduceAdd,Nat.reduceSub]))|refine wT3 ?_|with_reducible intro Q' hQ'|(refine GC ?_ ?_<;>intro hc)|simp only [laq])
  exact RA0
 ·rw [if_neg hg] at hR;subst hR
  by_cases he:ee=0
  ·subst he;have q3:((0:Int) != 0)=false:=rfl;have hmm:mm=false:=by cases mm;rfl;exact absurd ⟨rfl,rfl⟩ hg
   subst hmm;refine AC.E func12 ntmps12 ?_;intros;iterate 3 refine CP.SL ?_
   repeat' (first|((first|refine aC3 h0 ?_|refine aC4 i0 ?_|refine aC4 i1 ?_|refine aC4 i2 ?_|refine aC4 i3 ?_|refine aC4 i4 ?_|refine aC4 j1 ?_|refine aC4 j2 ?_|refine aC4 j3 ?_|refine aC4 j4 ?_|refine aC4 j5 ?_|refine aC4 j6 ?_|refine aC4 j7 ?_|refine aC4 k3 ?_|refine aC1 k4 ?_|refine wA1 ?_|(refine GA ?_ ?_<;>intro hg)|(refine GV ?_;intros;simp only [nz])|refine wA6 ?_)<;>(try simp only [q0,q3,nq,Nat.reduceBEq,Nat.reduceAdd,Nat.reduceSub]))|refine wT3 ?_|with_reducible intro Q' hQ'|(refine GC ?_ ?_<;>intro hc)|simp only [laq])
   exact RA0
  ·have q3:(ee != 0)=true:=by simpa using he
   clear k4;refine AC.E func12 ntmps12 ?_;intros;iterate 3 refine CP.SL ?_
   repeat' (first|((first|refine aC3 h0 ?_|refine aC4 i0 ?_|refine aC4 i1 ?_|refine aC4 i2 ?_|refine aC4 i3 ?_|refine aC4 i4 ?_|refine aC4 j1 ?_|refine aC4 j2 ?_|refine aC4 j3 ?_|refine aC4 j4 ?_|refine aC4 j5 ?_|refine aC4 j6 ?_|refine aC4 j7 ?_|refine aC4 k3 ?_|refine wA1 ?_|(refine GA ?_ ?_<;>intro hg)|(refine GV ?_;intros;simp only [nz])|refine wA6 ?_)<;>(try simp only [q0,q3,nq,Nat.reduceBEq,Nat.reduceAdd,Nat.reduceSub]))|refine wT3 ?_|with_reducible intro Q' hQ'|(refine GC ?_ ?_<;>intro hc)|simp only [laq])
   exact RA0
def rqS (b:List UInt8):Rw:=(bytesR (bytesR (bytesR (bytesR (byteR (newR b)).2).2).2).2).2
def rqZ (b:List UInt8):Rw:=(byteR (r4 (rqS b))).2
def readRq (b:List UInt8):Req:=
 ⟨(byteR (newR b)).1,(bytesR (byteR (newR b)).2).1,(bytesR (bytesR (byteR (newR b)).2).2).1,(bytesR (bytesR (bytesR (byteR (newR b)).2).2).2).1,(bytesR (bytesR (bytesR (bytesR (byteR (newR b)).2).2).2).2).1,
  (intR (rqS b)).1,(intR (r1 (rqS b))).1,(intR (r2 (rqS b))).1,(intR (r3 (rqS b))).1,⟨(byteR (r4 (rqS b))).1,(intR (rqZ b)).1,(intR (r1 (rqZ b))).1⟩⟩
def parseRq (b:List UInt8):Req×Int:=if 1024 < b.length then (req0,3) else if endR (r2 (rqZ b))=0/\mayReq (readRq b)=true then (readRq b,0) else (req0,150)
theorem readRq_small {b:List UInt8} (hb:b.length<=1024):(readRq b).small:=by
 have l0:(newR b).2.length<=100000000:=newR_le' (by omega);have l1:(byteR (newR b)).2.2.length<=100000000:=byteR_len l0;have l2:(bytesR (byteR (newR b)).2).2.2.length<=100000000:=bytes_le l1;have l3:(bytesR (bytesR (byteR (newR b)).2).2).2.2.length<=100000000:=bytes_le l2;have l4:(bytesR (bytesR (bytesR (byteR (newR b)).2).2).2).2.2.length<=100000000:=bytes_le l3;exact ⟨bytesR_bnd l1,bytesR_bnd l2,bytesR_bnd l3,bytesR_bnd l4⟩
theorem parseRq_ac (b:List UInt8) (hb:b.length<=100000000):AF 12 [bs none b] (.tu [.ag (eRq (parseRq b).1),I (parseRq b).2]):=by
 by_cases hq:1024 < b.length
 ·rw [show parseRq b=(req0,3) from if_pos hq];have q0:decide ((1024:Int) < (b.length:Int))=true:=decide_eq_true (by omega);refine AC.E func12 ntmps12 ?_;intros
  repeat' (first|((first|refine wA1 ?_|(refine GA ?_ ?_<;>intro hg)|(refine GV ?_;intros;simp only [nz])|refine wA6 ?_)<;>try refine wN5 ?_)|refine wT3 ?_|with_reducible intro Q' hQ'|(refine GC ?_ ?_<;>intro hc)|simp only [laq])
  exact RA0
 ·have l0:(newR b).2.length<=100000000:=newR_le' hb;have l1:(byteR (newR b)).2.2.length<=100000000:=byteR_len l0;have l2:(bytesR (byteR (newR b)).2).2.2.length<=100000000:=bytes_le l1;have l3:(bytesR (bytesR (byteR (newR b)).2).2).2.2.length<=100000000:=bytes_le l2;have l4:(bytesR (bytesR (bytesR (byteR (newR b)).2).2).2).2.2.length<=100000000:=bytes_le l3;have l5:(rqS b).2.length<=100000000:=bytes_le l4;have m1:(r1 (rqS b)).2.length<=100000000:=int_le l5;have m2:(r2 (rqS b)).2.length<=100000000:=int_le m1;have m3:(r3 (rqS b)).2.length<=100000000:=int_le m2;have m4:(r4 (rqS b)).2.length<=100000000:=int_le m3;have m5:(rqZ b).2.length<=100000000:=byteR_len m4;have m6:(r1 (rqZ b)).2.length<=100000000:=int_le m5;exact parseRqQ b (by omega) _ _ _ _ _ _ _ _ _ _ _ _ _ _ _ _ _ _ _ _ _ _ _ _ _ _ _ _ (rnew_ac b hb) (rbyte_ac _ l0) (rbytes_ac _ l1) (rtext_ac _ l2) (rtext_ac _ l3) (rtext_ac _ l4) (rint_ac _ l5) (rint_ac _ m1) (rint_ac _ m2) (rint_ac _ m3) (rbyte_ac _ m4) (rint_ac _ m5) (rint_ac _ m6) (rend_ac _) (rqmay_ac _ (readRq_small (by omega))) (if_neg hq)
