/- Parts. -/
import Derived.Test.YtnjllcnjcpfbhaaGreatZS6
import Derived.Test.YtnjllcnjcpfbhaaGreatZS7
import Derived.Test.YtnjllcnjcpfbhaaGreatZS9
namespace Go.Proofs.YtnjllcnjcpfbhaaGreat
set_option linter.unusedVariables false
set_option linter.unusedSimpArgs false
open Go.RowKit Go.Proofs.Tryz
set_option maxRecDepth 100000
set_option maxHeartbeats 8000000
theorem load64_ac (b:List UInt8) (hb:b.length<=100000000):AF 83 [bs none b,I 0] (.tu [.sc (.int .u64 ((loadS b 0 8).1:Int)),B (loadS b 0 8).2]):=by
 have h:=load_ac b 0 8 (by omega) hb (by omega) (by omega);refine AC.E func83 ntmps83 ?_;intros
 repeat' (first|((first|refine wA2 ?_|refine aC1 h ?_)<;>try refine NX ?_)|refine wT2 ?_|with_reducible intro Q' hQ'|(refine GC ?_ ?_<;>intro hc)|simp only [laq])
 (refine RB1 ?_;(exact ⟨rfl,rfl⟩))
theorem ldw32_ac (b:List UInt8) (hb:b.length<=100000000):AF 79 [bs none b,I 0] (.tu [.sc (.int .u32 ((loadS b 0 4).1:Int)),B (loadS b 0 4).2]):=by
 have h:=load_ac b 0 4 (by omega) hb (by omega) (by omega)
 have hw:IntKind.u32.wrap ((loadS b 0 4).1:Int)=((loadS b 0 4).1:Int):=by
  have h1:(loadS b 0 4).1 < 4294967296:=by
   unfold loadS;split
   ·simp
   ·have:=beN_lt ((b.drop (0:Int).toNat).take 4);have h2:256 ^ ((b.drop (0:Int).toNat).take 4).length<=256 ^ 4:=Nat.pow_le_pow_right (by omega) (by simp;omega);simp at this h2 ⊢;omega
  simp [IntKind.wrap,IntKind.bits,IntKind.signed];omega
 refine AC.E func79 ntmps79 ?_;intros
 repeat' (first|((first|refine wA2 ?_|refine aC1 h ?_)<;>try refine NX ?_)|refine wT2 ?_|with_reducible intro Q' hQ'|(refine GC ?_ ?_<;>intro hc)|simp only [laq])
 simp only [hw]
 (refine RB1 ?_;(exact ⟨rfl,rfl⟩))
theorem loadS_all {b:List UInt8} {n:Nat} (h:b.length=n):loadS b 0 n=(beN b,true):=by
 have h1:¬ ((0:Int) < 0\/(b.length:Int) - n < 0):=by omega
 simp only [loadS,if_neg h1];simp [←h]
def toI (n:Nat):Int:=IntKind.i64.wrap n
def byteG (b:List UInt8):UInt8×Bool:=(b.headD 0,true)
def intG (b:List UInt8):Int×Bool:=(toI (beN b),true)
def lenG (b:List UInt8):Int×Bool:=(beN b,decide (beN b<=65536))
def bytesG (b:List UInt8):List UInt8×Bool:=(b,true)
theorem len1 {b:List UInt8} (h:b.length=1):∃ x,b=[x]:=by
 match b,h with
 | [x],_=>exact ⟨x,rfl⟩
theorem rbyte1_ac (b:List UInt8) (h:b.length=1):AF 76 [bs none b] (.tu [U (byteG b).1,B (byteG b).2]):=by
 obtain ⟨x,rfl⟩:=len1 h;refine AC.E func76 ntmps76 ?_;intros
 repeat' (first|((first|refine wA2 ?_|((with_reducible apply AP.k_any);first|refine AP.E ?_))<;>try refine NX ?_)|refine wT2 ?_|with_reducible intro Q' hQ'|(refine GC ?_ ?_<;>intro hc)|simp only [laq])
 (refine RB1 ?_;(exact ⟨rfl,rfl⟩))
theorem rint1_ac (b:List UInt8) (h:b.length=8):AF 82 [bs none b] (.tu [I (intG b).1,B (intG b).2]):=by
 have hl:=load64_ac b (by omega);rw [loadS_all h] at hl;refine AC.E func82 ntmps82 ?_;intros
 repeat' (first|((first|refine wA2 ?_|refine aC1 hl ?_)<;>try refine NX ?_)|refine wT2 ?_|with_reducible intro Q' hQ'|(refine GC ?_ ?_<;>intro hc)|simp only [laq])
 (refine RB1 ?_;(exact ⟨rfl,rfl⟩))
theorem rlen1_ac (b:List UInt8) (h:b.length=4):AF 78 [bs none b] (.tu [I (lenG b).1,B (lenG b).2]):=by
 have hl:=ldw32_ac b (by omega);rw [loadS_all h] at hl;have hb:=beN_lt b;rw [h] at hb;have hw:IntKind.i64.wrap (beN b:Int)=(beN b:Int):=wrap_i64 (by omega) (by omega);refine AC.E func78 ntmps78 ?_;intros
 repeat' (first|((first|refine wA2 ?_|refine aC1 hl ?_)<;>try refine NX ?_)|refine wT2 ?_|with_reducible intro Q' hQ'|(refine GC ?_ ?_<;>intro hc)|simp only [laq])
 simp only [hw]
 (refine RB1 ?_;((refine ⟨?_,rfl⟩;simp [lenG];try omega)))
theorem rbytes1_ac (b:List UInt8) (h:b.length<=100000000):AF 81 [bs none b] (.tu [bs none (bytesG b).1,B (bytesG b).2]):=by
 have hcat:=(wcat_ac [b] (by simp) (by simp;omega)).ro (r2:=bs none b) (by simp [AV.ro,ro_B]);refine AC.E func81 ntmps81 ?_;intros
 repeat' (first|((first|refine wA4 ?_|refine aC1 hcat ?_|((with_reducible apply AP.k_any);refine AP.gh (gh_fz (b:=0) (u:=1) rfl rfl (by (repeat' (first|exact FzC.nil|apply FzC.cons|exact FzV.hd|apply FzV.ag|exact FzV.same))) (by (repeat' (first|exact FzB.nil|apply FzB.c|apply FzB.same|exact FzC.nil|apply FzC.cons|exact FzV.hd|apply FzV.ag|exact FzV.same)))) ?_;first|simp only [roE,roC,AV.ro,ro_B,ro_M,ro_E]|simp only [roE,roC,AV.ro,ro_B]))<;>try refine NX ?_)|refine wT2 ?_|with_reducible intro Q' hQ'|(refine GC ?_ ?_<;>intro hc)|simp only [laq])
 (refine RB1 ?_;(exact ⟨rfl,rfl⟩))
theorem takeS_len {α:Type} {z:α} {f:List UInt8->α×Bool} {n:Int} {st:Int×List UInt8} {k:Nat} (h:st.2.length<=k):(takeS z f n st).2.2.length<=k:=by
 unfold takeS;split
 ·exact h
 ·split
  ·simp
  ·split
   ·simp;omega
   ·simp
def byteR (st:Int×List UInt8):UInt8×(Int×List UInt8):=takeS 0 byteG 1 st
def intR (st:Int×List UInt8):Int×(Int×List UInt8):=takeS 0 intG 8 st
def lenR (st:Int×List UInt8):Int×(Int×List UInt8):=takeS 0 lenG 4 st
def bytesR (st:Int×List UInt8):List UInt8×(Int×List UInt8):=takeS [] bytesG (lenR st).1 (lenR st).2
def endR (st:Int×List UInt8):Int:=if st.1=0 then (if st.2=[] then 0 else 40) else st.1
theorem rbyte_ac (st:Int×List UInt8) (hst:st.2.length<=100000000):AC prog 34 [.bp 0 0 0] [rB st] (fun v bs'=>v=U (byteR st).1/\bs'=[rB (byteR st).2]):=by
 have h:=take1_ac 76 byteG 1 st hst (fun b hb _=>rbyte1_ac b hb);refine AC.E func34 ntmps34 ?_;intros
 repeat' (first|((first|refine wA2 ?_|refine aC2 h ?_)<;>try refine NX ?_)|refine wT2 ?_|with_reducible intro Q' hQ'|(refine GC ?_ ?_<;>intro hc)|simp only [laq])
 exact RA1
theorem rint_ac (st:Int×List UInt8) (hst:st.2.length<=100000000):AC prog 37 [.bp 0 0 0] [rB st] (fun v bs'=>v=I (intR st).1/\bs'=[rB (intR st).2]):=by
 have h:=take3_ac 82 intG 8 st hst (fun b hb _=>rint1_ac b hb);refine AC.E func37 ntmps37 ?_;intros
 repeat' (first|((first|refine wA2 ?_|refine aC2 h ?_)<;>try refine NX ?_)|refine wT2 ?_|with_reducible intro Q' hQ'|(refine GC ?_ ?_<;>intro hc)|simp only [laq])
 exact RA1
theorem rbytes_ac (st:Int×List UInt8) (hst:st.2.length<=100000000):AC prog 35 [.bp 0 0 0] [rB st] (fun v bs'=>v=bs none (bytesR st).1/\bs'=[rB (bytesR st).2]):=by
 have h:=take3_ac 78 lenG 4 st hst (fun b hb _=>rlen1_ac b hb);have h2:=take4_ac 81 bytesG (lenR st).1 (lenR st).2 (takeS_len hst) (fun b _ hb=>rbytes1_ac b (Nat.le_trans hb (takeS_len hst)));refine AC.E func35 ntmps35 ?_;intros
 repeat' (first|((first|refine wA2 ?_|refine aC2 h ?_|refine aC2 h2 ?_)<;>try refine NX ?_)|refine wT2 ?_|with_reducible intro Q' hQ'|(refine GC ?_ ?_<;>intro hc)|simp only [laq])
 exact RA1
theorem rerr_ac (st:Int×List UInt8):AC prog 84 [.bp 0 0 0] [rB st] (fun v bs'=>v=I st.1/\bs'=[rB st]):=by
 refine AC.E func84 ntmps84 ?_;intros
 repeat' (first|((first|refine wA3 ?_|(refine GA ?_ ?_<;>intro hg)|(refine GV ?_;intros;simp only [nz]))<;>try refine NX ?_)|refine wT2 ?_|with_reducible intro Q' hQ'|(refine GC ?_ ?_<;>intro hc)|simp only [laq])
 exact RA1
theorem rend_ac (st:Int×List UInt8):AC prog 38 [.bp 0 0 0] [rB st] (fun v bs'=>v=I (endR st)/\bs'=[rB st]):=by
 refine AC.E func38 ntmps38 ?_;intros
 repeat' (first|((first|refine wA2 ?_|(refine GV ?_;intros;simp only [nz])|refine aC2 (rerr_ac st) ?_)<;>try refine NX ?_)|refine wT2 ?_|with_reducible intro Q' hQ'|(refine GC ?_ ?_<;>intro hc)|simp only [laq])
 all_goals (refine RetQ.B [(0,0)] ?_;(try dsimp only [resV,List.getD_cons_succ,List.getD_cons_zero]);((refine ⟨?_,rfl⟩;simp at *;simp [endR, *];try (intro h;simp [h] at *))))
structure Hs where
 n:S8
 rest:List UInt8
 all:Nat
abbrev hC (h:Hs):List AV:=[B true,Q4 h.n.a,Q4 h.n.b,Q4 h.n.c,Q4 h.n.d,Q4 h.n.e,Q4 h.n.f,Q4 h.n.g,Q4 h.n.h,bs none h.rest,I h.all]
abbrev hB (h:Hs):Bx:=.c 260 (hC h)
theorem hnew_ac:AC prog 190 [] [] (fun v bs'=>v=.bp 0 0 0/\bs'=[hB ⟨s8z,[],0⟩]):=by
 have h:=first_ac;refine AC.E func190 ntmps190 ?_;intros
 repeat' (first|((first|refine wA8 ?_|refine wA6 ?_)<;>(try simp only [nx,q4,rn,fq,Nat.mul_one,Bool.and_true,Bool.and_false,Nat.reduceBEq,Nat.reduceAdd,Nat.reduceSub,BEq.rfl]))|refine wT2 ?_|with_reducible intro Q' hQ'|(refine GC ?_ ?_<;>intro hc)|simp only [laq])
 (exact RetQ.A [(0,1)] (by exact ⟨rfl,rfl⟩))
theorem hnone_ac (h:Hs):AC prog 212 [.bp 0 0 0] [hB h] (fun v bs'=>v=B false/\bs'=[hB h]):=by
 refine AC.E func212 ntmps212 ?_;intros
 repeat' (first|((first|refine wA3 ?_|(refine GA ?_ ?_<;>intro hg)|(refine GV ?_;intros;simp only [nz])|refine wA10 ?_|refine wA6 ?_)<;>(try simp only [nx,q4,rn,fq,Nat.mul_one,Bool.and_true,Bool.and_false,Nat.reduceBEq,Nat.reduceAdd,Nat.reduceSub,BEq.rfl]))|refine wT2 ?_|with_reducible intro Q' hQ'|(refine GC ?_ ?_<;>intro hc)|simp only [laq])
 exact RA1
def foldB (n:S8) (l:List (List UInt8)):S8:=l.foldl blockS n
theorem foldB_take {n:S8} {l:List (List UInt8)} {i:Nat} {c:List UInt8} (h:l[i]? = some c):foldB n (l.take (i + 1))=blockS (foldB n (l.take i)) c:=by
 obtain ⟨hi,rfl⟩:=List.getElem?_eq_some_iff.1 h;unfold foldB;rw [List.take_succ_eq_append_getElem hi,List.foldl_append];rfl
theorem chS_len {b:List UInt8} {i:Nat} {c:List UInt8} (h:(chS b)[i]? = some c):c.length<=100000000:=by
 have:=List.mem_of_getElem? h;unfold chS at this;obtain ⟨j,_,rfl⟩:=List.mem_map.1 this;simp;omega
def writeS (h:Hs) (b:List UInt8):Hs:=⟨foldB h.n (chS (h.rest ++ b)),(h.rest ++ b).drop ((h.rest ++ b).length / 64 * 64),h.all + b.length⟩
theorem hwrite_ac (h:Hs) (b:List UInt8) (hr:h.rest.length<=100) (hb:b.length<=50000000) (ha:h.all<=10000000):AC prog 191 [.bp 0 0 0,bs none b] [hB h] (fun v bs'=>v=I 0/\bs'=[hB (writeS h b)]):=by
 have h1:=hnone_ac h;have h2:=wcat_ac [h.rest,b] (by simp) (by simp;omega);rw [show [h.rest,b].flatten=h.rest ++ b by simp] at h2;have h3:=blocks_ac (h.rest ++ b);refine AC.E func191 ntmps191 ?_;intro X hρ hmks;refine CP.gh gh_slot ?_;refine NX ?_
 repeat' (first|((first|refine wA8 ?_|refine wA6 ?_|refine wD2 ?_)<;>(try simp only [nx,q4,rn,fq,Nat.mul_one,Bool.and_true,Bool.and_false,Nat.reduceBEq,Nat.reduceAdd,Nat.reduceSub,BEq.rfl]))|refine wT5 ?_|with_reducible intro Q' hQ'|(refine GC ?_ ?_<;>intro hc)|simp only [laq])
 refine CP.RG (blocks_ic (h.rest ++ b) (by simp;omega)) (fun i=>[⟨0,hB ⟨foldB h.n ((chS (h.rest ++ b)).take i),h.rest,h.all⟩⟩,⟨1,.c 233 [.bp 0 0 0]⟩,⟨1,.x⟩,⟨2,.x⟩]) (fun _ _=>False) (fun y hy=>by obtain ⟨c,_,rfl⟩:=List.mem_map.1 hy;rfl) ?_ ?_ (fun _=>⟨fun h=>h.elim,fun _ h=>h.elim⟩)
 ·intro i y hy Xr l hρ
  obtain ⟨c,hc,rfl⟩:∃ c,(chS (h.rest ++ b))[i]? = some c/\y=[bs none c]:=by
   rw [List.getElem?_map,Option.map_eq_some_iff] at hy;obtain ⟨c,h1,h2⟩:=hy;exact ⟨c,h1,h2.symm⟩
  have hs:=foldB_take (n:=h.n) hc;generalize foldB h.n (List.take i (chS (h.rest ++ b)))=m at *;generalize foldB h.n (List.take (i + 1) (chS (h.rest ++ b)))=m' at *;subst hs;have h4:=block_ac m c (chS_len hc);simp only [putL,List.set_cons_succ,List.set_cons_zero]
  repeat' (first|((first|refine wA8 ?_|refine wA6 ?_|refine wD2 ?_)<;>(try simp only [nx,q4,rn,fq,Nat.mul_one,Bool.and_true,Bool.and_false,Nat.reduceBEq,Nat.reduceAdd,Nat.reduceSub,BEq.rfl]))|refine wT5 ?_|with_reducible intro Q' hQ'|(refine GC ?_ ?_<;>intro hc)|simp only [laq])
  refine ⟨trivial,rfl,fun Xb hρ=>?_⟩
  repeat' (first|((first|refine wA8 ?_|refine wA6 ?_|refine wD2 ?_)<;>(try simp only [nx,q4,rn,fq,Nat.mul_one,Bool.and_true,Bool.and_false,Nat.reduceBEq,Nat.reduceAdd,Nat.reduceSub,BEq.rfl]))|refine wT5 ?_|with_reducible intro Q' hQ'|(refine GC ?_ ?_<;>intro hc)|simp only [laq])
  exact ⟨_,by exact Gh.W⟩
 ·simp only [List.length_map];rw [List.take_of_length_le (Nat.le_refl _)];have hl:(h.rest ++ b).length=h.rest.length + b.length:=by simp
  have hq1:IntKind.i64.wrap (Int.tdiv ((h.rest ++ b).length:Int) 64)=(((h.rest ++ b).length / 64:Nat):Int):=by
   rw [show Int.tdiv ((h.rest ++ b).length:Int) 64=(((h.rest ++ b).length / 64:Nat):Int) from rfl];exact wrap_i64 (by omega) (by omega)
  have hq2:IntKind.i64.wrap ((((h.rest ++ b).length / 64:Nat):Int) * 64)=(((h.rest ++ b).length / 64 * 64:Nat):Int):=by
   rw [wrap_i64 (by omega) (by omega)];omega
  have hq3:IntKind.i64.wrap ((h.all:Int) + (b.length:Int))=((h.all + b.length:Nat):Int):=by
   rw [wrap_i64 (by omega) (by omega)];omega
  have hd:List.take ((h.rest ++ b).length - (h.rest ++ b).length / 64 * 64) (List.drop ((h.rest ++ b).length / 64 * 64) (h.rest ++ b))=List.drop ((h.rest ++ b).length / 64 * 64) (h.rest ++ b):=List.take_of_length_le (by simp)
  repeat' (first|((first|refine wA8 ?_|refine wA6 ?_|refine wD2 ?_)<;>(try simp only [hq1,hq2,hq3,Int.toNat_natCast,nx,q4,rn,fq,Nat.mul_one,Bool.and_true,Bool.and_false,Nat.reduceBEq,Nat.reduceAdd,Nat.reduceSub,BEq.rfl]))|refine wT5 ?_|with_reducible intro Q' hQ'|(refine GC ?_ ?_<;>intro hc)|simp only [laq])
  simp only [hd];exact RA1
def byS (x:UInt32) (i:Nat):UInt8:=UInt8.ofNat (x.toNat / 256 ^ i % 256)
theorem p32_ac (x:UInt32):AF 181 [Q4 x] (bs none [byS x 3,byS x 2,byS x 1,byS x 0]):=by
 have h:=(put_ac x.toNat 4 (by omega)).ro (r2:=bs none (putS x.toNat 4)) (by simp only [AV.ro,ro_B]);refine AC.E func181 ntmps181 ?_;intros
 repeat' (first|((first|refine wA8 ?_|refine wA6 ?_)<;>(try simp only [nx,q4,rn,fq,Nat.mul_one,Bool.and_true,Bool.and_false,Nat.reduceBEq,Nat.reduceAdd,Nat.reduceSub,BEq.rfl]))|refine wT2 ?_|with_reducible intro Q' hQ'|(refine GC ?_ ?_<;>intro hc)|simp only [laq])
 exact RA0
theorem blocks_acO (b:List UInt8):AC prog 213 [bs (some tU) b] [] (fun v bs'=>v=.fn 225 [.bp 0 0 0]/\bs'=[bxB b]):=by
 refine AC.E func213 ntmps213 ?_;intros;refine CP.gh (gh_fzS (b:=0) rfl) ?_;simp only [nx,q4,rn,fq,Nat.mul_one,Bool.and_true,Bool.and_false,Nat.reduceBEq,Nat.reduceAdd,Nat.reduceSub,BEq.rfl]
 repeat' (first|((first|refine wA8 ?_|refine wA6 ?_)<;>(try simp only [nx,q4,rn,fq,Nat.mul_one,Bool.and_true,Bool.and_false,Nat.reduceBEq,Nat.reduceAdd,Nat.reduceSub,BEq.rfl]))|refine wT2 ?_|with_reducible intro Q' hQ'|(refine GC ?_ ?_<;>intro hc)|simp only [laq])
 (exact RetQ.A [(0,2)] (by exact ⟨rfl,rfl⟩))
def padS (rest:List UInt8) (all:Nat):List UInt8:=[rest,[0x80],List.replicate ((119 - rest.length) % 64) 0,putS (8 * all) 8].flatten
def wordsB (m:S8):List UInt8:=[byS m.a 3,byS m.a 2,byS m.a 1,byS m.a 0,byS m.b 3,byS m.b 2,byS m.b 1,byS m.b 0,byS m.c 3,byS m.c 2,byS m.c 1,byS m.c 0,byS m.d 3,byS m.d 2,byS m.d 1,byS m.d 0,byS m.e 3,byS m.e 2,byS m.e 1,byS m.e 0,byS m.f 3,byS m.f 2,byS m.f 1,byS m.f 0,byS m.g 3,byS m.g 2,byS m.g 1,byS m.g 0,byS m.h 3,byS m.h 2,byS m.h 1,byS m.h 0]
def sumS (h:Hs):List UInt8:=wordsB (foldB h.n (chS (padS h.rest h.all)))
def mw (m:S8) (i:Nat):UInt32:=[m.a,m.b,m.c,m.d,m.e,m.f,m.g,m.h].getD i 0
theorem mw_at (m:S8) {i:Nat} (h:i < 8):(e8 m)[i]? = some (Q4 (mw m i)):=by
 rcases i with _ | _ | _ | _ | _ | _ | _ | _|i<;>first|rfl|(exfalso;omega)
theorem mix_cpy (m:S8) {i:Nat} (h:i < 8):cpy (mixT (wordsB m) (4 * i)) (4 * i) [U (byS (mw m i) 3),U (byS (mw m i) 2),U (byS (mw m i) 1),U (byS (mw m i) 0)]=mixT (wordsB m) (4 * (i + 1)):=by
 rcases i with _ | _ | _ | _ | _ | _ | _ | _|i<;>first|rfl|(exfalso;omega)
theorem hsum_ac (h:Hs) (hr:h.rest.length < 64) (ha:h.all<=100000000):AC prog 192 [.bp 0 0 0] [hB h] (fun v bs'=>v=.tu [tg (sumS h),I 0]/\bs'=[hB h]):=by
 have h1:=hnone_ac h;have hq0:IntKind.i64.wrap (119 - (h.rest.length:Int))=((119 - h.rest.length:Nat):Int):=by rw [wrap_i64 (by omega) (by omega)];omega
 have hq1:Int.tmod ((119 - h.rest.length:Nat):Int) 64=(((119 - h.rest.length) % 64:Nat):Int):=rfl;have hq2:IntKind.i64.wrap (8 * (h.all:Int))=((8 * h.all:Nat):Int):=by rw [wrap_i64 (by omega) (by omega)];omega
 have hq3:IntKind.u64.wrap ((8 * h.all:Nat):Int)=((8 * h.all:Nat):Int):=wrap_u64 (by omega) (by omega);have hk:(119 - h.rest.length) % 64 < 64:=Nat.mod_lt _ (by omega);have h2:=put64_ac (8 * h.all);have h3:=wcat_ac [h.rest,[0x80],List.replicate ((119 - h.rest.length) % 64) 0,putS (8 * h.all) 8] (by simp) (by simp [putS_length];omega);have h4:=blocks_acO (padS h.rest h.all);have hpl:(padS h.rest h.all).length<=1000:=by simp [padS,putS_length];omega
 rw [show [h.rest,[0x80],List.replicate ((119 - h.rest.length) % 64) 0,putS (8 * h.all) 8].flatten=padS h.rest h.all from rfl] at h3;unfold sumS;generalize padS h.rest h.all=p at *;refine AC.E func192 ntmps192 ?_;intro X hρ hmks;refine CP.gh gh_slot ?_;refine NX ?_
 refine CP.gh gh_slot ?_;refine NX ?_
 refine CP.gh gh_slot ?_;refine NX ?_
 refine CP.gh gh_slot ?_;refine NX ?_
 refine CP.gh gh_slot ?_;refine NX ?_
 refine CP.gh gh_slot ?_;refine NX ?_
 refine CP.gh gh_slot ?_;refine NX ?_
 refine CP.gh gh_slot ?_;refine NX ?_
 repeat' (first|((first|refine wA8 ?_|((with_reducible apply AP.k_any);refine ap_makeS rfl rfl rfl rfl rfl rfl rfl rfl rfl rfl rfl (by omega) ?_)|refine wA6 ?_|refine wD2 ?_|((with_reducible apply DW.k_any);refine DW.known rfl ?_;(with_reducible first|apply DW.sx 2);(iterate 2 (focus (simp only [ft,nm,Nat.reduceAdd,Nat.reduceBEq,List.getElem?_cons_zero,List.getElem?_cons_succ];exact rfl)));(focus (intro X V;simp only [ft,nm,Nat.reduceAdd,Nat.reduceBEq];(try (refine AP.Y ?_;dsimp only));(first|refine ap_makeS rfl rfl rfl rfl rfl rfl rfl rfl rfl rfl rfl (by omega) ?_|fail);(try refine NX ?_);refine AP.nil ?_;(first|refine ⟨trivial,rfl,?_⟩|refine ⟨rfl,rfl,?_⟩);(repeat' (first|exact Mg.nil|apply Mg.keep rfl|apply Mg.take rfl));done));(focus (refine Exists.intro (fun _=>0) ?_;apply Exists.intro;(repeat' (first|exact Mg.nil|apply Mg.keep rfl|apply Mg.take rfl));done));(iterate 2 (focus (exact rfl)))))<;>(try simp only [mk0,hq0,hq1,hq2,hq3,nx,q4,rn,fq,Nat.mul_one,Bool.and_true,Bool.and_false,Nat.reduceBEq,Nat.reduceAdd,Nat.reduceSub,BEq.rfl]))|refine wT5 ?_|with_reducible intro Q' hQ'|(refine GC ?_ ?_<;>intro hc)|simp only [laq])
 refine CP.RG (blocks_ic p (by omega)) (fun i=>[⟨0,hB h⟩,⟨1,.c 58 (tagC (List.replicate 32 0))⟩,⟨1,.c 257 (e8 (foldB h.n ((chS p).take i)))⟩,⟨2,.x⟩,⟨3,.x⟩,⟨0,.x⟩,⟨0,.x⟩,⟨0,.x⟩,⟨0,.x⟩]) (fun _ _=>False) (fun y hy=>by obtain ⟨c,_,rfl⟩:=List.mem_map.1 hy;rfl) ?_ ?_ (fun _=>⟨fun h=>h.elim,fun _ h=>h.elim⟩)
 ·intro i y hy Xr l hρ
  obtain ⟨c,hc,rfl⟩:∃ c,(chS p)[i]? = some c/\y=[bs none c]:=by
   rw [List.getElem?_map,Option.map_eq_some_iff] at hy;obtain ⟨c,h1,h2⟩:=hy;exact ⟨c,h1,h2.symm⟩
  have hs:=foldB_take (n:=h.n) hc;generalize foldB h.n (List.take i (chS p))=m at *;generalize foldB h.n (List.take (i + 1) (chS p))=m' at *;subst hs;have h5:=block_ac m c (chS_len hc);simp only [putL,List.set_cons_succ,List.set_cons_zero]
  repeat' (first|((first|refine wA8 ?_|refine wA6 ?_|refine wD2 ?_)<;>(try simp only [nx,q4,rn,fq,Nat.mul_one,Bool.and_true,Bool.and_false,Nat.reduceBEq,Nat.reduceAdd,Nat.reduceSub,BEq.rfl]))|refine wT5 ?_|with_reducible intro Q' hQ'|(refine GC ?_ ?_<;>intro hc)|simp only [laq])
  refine ⟨trivial,rfl,fun Xb hρ=>?_⟩
  repeat' (first|((first|refine wA8 ?_|refine wA6 ?_|refine wD2 ?_)<;>(try simp only [nx,q4,rn,fq,Nat.mul_one,Bool.and_true,Bool.and_false,Nat.reduceBEq,Nat.reduceAdd,Nat.reduceSub,BEq.rfl]))|refine wT5 ?_|with_reducible intro Q' hQ'|(refine GC ?_ ?_<;>intro hc)|simp only [laq])
  exact ⟨_,by exact Gh.W⟩
 ·simp only [List.length_map];rw [List.take_of_length_le (Nat.le_refl _)];generalize foldB h.n (chS p)=m
  repeat' (first|((first|refine wA8 ?_|refine wA6 ?_|refine wD2 ?_)<;>(try simp only [nx,q4,rn,fq,Nat.mul_one,Bool.and_true,Bool.and_false,Nat.reduceBEq,Nat.reduceAdd,Nat.reduceSub,BEq.rfl]))|refine wT5 ?_|with_reducible intro Q' hQ'|(refine GC ?_ ?_<;>intro hc)|simp only [laq])
  refine cp_loopS [8,9,46,47,48,49,50,51,52,53,54,55,56] (fun a:Nat=>8 - a) (fun a=>a<=8) (fun a=>[(46,I a)]) (fun a=>[(3,⟨3,.c 58 (mixT (wordsB m) (4 * a))⟩)]) 0 (Nat.zero_le _) (by exact Gh.W) ?_;intro i hi;refine ST0 ?_
  by_cases hlt:i < 8
  ·have hw:IntKind.i64.wrap ((i:Int) + 1)=((i + 1:Nat):Int):=wrap_i64 (by omega) (by omega);have hw4:IntKind.i64.wrap (4 * (i:Int))=((4 * i:Nat):Int):=wrap_i64 (by omega) (by omega);have d8:decide ((i:Int) < 8)=true:=by simp;omega
   have hx:=mw_at m hlt;have hset:=mix_cpy m hlt;have hlen:=mixT_len (wordsB m) (4 * i);generalize mw m i=x at *;have h5:=p32_ac x
   repeat' (first|((first|refine wA8 ?_|refine wA6 ?_|refine wD2 ?_)<;>(try simp only [hw4,d8,Int.toNat_natCast,nx,q4,rn,fq,Nat.mul_one,Bool.and_true,Bool.and_false,Nat.reduceBEq,Nat.reduceAdd,Nat.reduceSub,BEq.rfl]))|refine wT5 ?_|with_reducible intro Q' hQ'|(refine GC ?_ ?_<;>intro hc)|simp only [laq])
   have hm:min 4 (32 - 4 * i)=4:=by omega
   simp only [hw,hm];exact ⟨i + 1,by omega,by omega,by (rw [←hset];exact Gh.W)⟩
  ·obtain rfl:i=8:=by omega
   rw [show 4 * 8=32 from rfl,mixT_32]
   repeat' (first|((first|refine wA8 ?_|refine wA6 ?_|refine wD2 ?_)<;>(try simp only [nx,q4,rn,fq,Nat.mul_one,Bool.and_true,Bool.and_false,Nat.reduceBEq,Nat.reduceAdd,Nat.reduceSub,BEq.rfl]))|refine wT5 ?_|with_reducible intro Q' hQ'|(refine GC ?_ ?_<;>intro hc)|simp only [laq])
   exact RA1
def shaS (b:List UInt8):List UInt8:=sumS (writeS ⟨s8z,[],0⟩ b)
theorem sha_ac (b:List UInt8) (hb:b.length<=1000000):AF 163 [bs none b] (tg (shaS b)):=by
 have h1:=hnew_ac;have h2:=hwrite_ac ⟨s8z,[],0⟩ b (by simp) (by omega) (by simp);have h3:=hsum_ac (writeS ⟨s8z,[],0⟩ b) (by simp [writeS];omega) (by simp [writeS];omega);unfold shaS;generalize writeS ⟨s8z,[],0⟩ b=st at *;generalize sumS st=t at *;refine AC.E func163 ntmps163 ?_;intros
 repeat' (first|((first|refine wA8 ?_|refine wA6 ?_)<;>(try simp only [nx,q4,rn,fq,Nat.mul_one,Bool.and_true,Bool.and_false,Nat.reduceBEq,Nat.reduceAdd,Nat.reduceSub,BEq.rfl]))|refine wT2 ?_|with_reducible intro Q' hQ'|(refine GC ?_ ?_<;>intro hc)|simp only [laq])
 exact RA0
theorem u32_ext {a b:UInt32} (h:∀ i,i < 32->a.toBitVec.getLsbD i=b.toBitVec.getLsbD i):a=b:=by
 have:a.toBitVec=b.toBitVec:=BitVec.eq_of_getLsbD_eq h
 cases a;cases b;simp_all
theorem ch_eq (e f g:UInt32):(e &&& f) ^^^ (~~~e &&& g)=(e &&& f ||| ~~~e &&& g):=by
 apply u32_ext;intro i hi;simp only [UInt32.toBitVec_xor,UInt32.toBitVec_and,UInt32.toBitVec_or,UInt32.toBitVec_not,BitVec.getLsbD_xor,BitVec.getLsbD_and,BitVec.getLsbD_or,BitVec.getLsbD_not,hi,decide_true,Bool.true_and]
 cases e.toBitVec.getLsbD i<;>cases f.toBitVec.getLsbD i<;>cases g.toBitVec.getLsbD i<;>rfl
theorem maj_eq (a b c:UInt32):(a &&& b) ^^^ (a &&& c) ^^^ (b &&& c)=(a &&& b ||| a &&& c ||| b &&& c):=by
 apply u32_ext;intro i hi;simp only [UInt32.toBitVec_xor,UInt32.toBitVec_and,UInt32.toBitVec_or,BitVec.getLsbD_xor,BitVec.getLsbD_and,BitVec.getLsbD_or]
 cases a.toBitVec.getLsbD i<;>cases b.toBitVec.getLsbD i<;>cases c.toBitVec.getLsbD i<;>rfl
theorem chS_app {x:List UInt8} {q:Nat} (h:x.length=64 * q) (y:List UInt8):chS (x ++ y)=chS x ++ chS y:=by
 have hl:(x ++ y).length / 64=q + y.length / 64:=by simp [h];omega
 have hq:x.length / 64=q:=by omega
 unfold chS;rw [hl,hq,List.range_add,List.map_append,List.map_map]
 congr 1
 ·apply List.map_congr_left;intro i hi;have hi:=List.mem_range.1 hi;rw [List.drop_append_of_le_length (by omega),List.take_append_of_le_length (by simp;omega)]
 ·apply List.map_congr_left;intro i hi
  show ((x ++ y).drop (64 * (q + i))).take 64=_
  rw [List.drop_append,List.drop_of_length_le (by omega),List.nil_append,show 64 * (q + i) - x.length=64 * i by omega]
theorem chS_of (b:List UInt8):chS b=chS (b.take (b.length / 64 * 64)):=by
 have hl:(b.take (b.length / 64 * 64)).length / 64=b.length / 64:=by rw [List.length_take];omega
 unfold chS;rw [hl];apply List.map_congr_left;intro i hi;have hi:=List.mem_range.1 hi;rw [List.drop_take,List.take_take,show min 64 (b.length / 64 * 64 - 64 * i)=64 by omega]
theorem shaS_eq (b:List UInt8):shaS b=wordsB (foldB s8z (chS (wholeS b))):=by
 have e1:wholeS b=b.take (b.length / 64 * 64) ++ padS (b.drop (b.length / 64 * 64)) b.length:=by
  have h2:(b.drop (b.length / 64 * 64)).length=b.length % 64:=by rw [List.length_drop];omega
  unfold wholeS padS nzS;rw [h2];simp only [List.flatten_cons,List.flatten_nil,List.append_nil,List.append_assoc];rw [←List.append_assoc (List.take _ _),List.take_append_drop]
 have e2:shaS b=wordsB (foldB (foldB s8z (chS b)) (chS (padS (b.drop (b.length / 64 * 64)) b.length))):=by
  simp only [shaS,sumS,writeS,List.nil_append,Nat.zero_add]
 rw [e2,e1,chS_app (q:=b.length / 64) (by rw [List.length_take];omega),←chS_of];unfold foldB;rw [List.foldl_append]
theorem whole_len (b:List UInt8):∃ m,(wholeS b).length=64 * m/\(wholeS b).length<=b.length + 100:=by
 have:(wholeS b).length=b.length + 1 + nzS b.length + 8:=by simp [wholeS,putS_length];omega
 have h:nzS b.length < 64:=Nat.mod_lt _ (by omega);refine ⟨(b.length + 1 + nzS b.length + 8) / 64,?_,by omega⟩;rw [this];unfold nzS;omega
abbrev Rw:=Int×List UInt8
def r1 (st:Rw):Rw:=(intR st).2
def r2 (st:Rw):Rw:=(intR (r1 st)).2
def r3 (st:Rw):Rw:=(intR (r2 st)).2
def r4 (st:Rw):Rw:=(intR (r3 st)).2
theorem newR_le' {b:List UInt8} {k:Nat} (h:b.length<=k):(newR b).2.length<=k:=by
 unfold newR;split
 ·simp
 ·exact h
theorem int_le {st:Rw} {k:Nat} (h:st.2.length<=k):(intR st).2.2.length<=k:=takeS_len h
theorem bytes_le {st:Rw} {k:Nat} (h:st.2.length<=k):(bytesR st).2.2.length<=k:=takeS_len (takeS_len h)
theorem byteR_len {st:Int×List UInt8} {k:Nat} (h:st.2.length<=k):(byteR st).2.2.length<=k:=takeS_len h
theorem rtext_ac (st:Rw) (hst:st.2.length<=100000000):AC prog 36 [.bp 0 0 0] [rB st] (fun v bs'=>v=S (bytesR st).1/\bs'=[rB (bytesR st).2]):=by
 have h1:=rbytes_ac st hst;refine AC.E func36 ntmps36 ?_;intros;refine CP.SL ?_
 repeat' (first|((first|refine wA1 ?_|(refine GA ?_ ?_<;>intro hg)|(refine GV ?_;intros;simp only [nz])|refine wA5 ?_|refine wA6 ?_)<;>try refine NQ ?_)|refine wT3 ?_|with_reducible intro Q' hQ'|(refine GC ?_ ?_<;>intro hc)|simp only [laq])
 exact RA1
theorem takeS_bnd {z:List UInt8} {f:List UInt8->List UInt8×Bool} {n:Int} {st:Rw} {k:Nat} (hz:z.length<=k) (hf:∀ b:List UInt8,b.length<=k->(f b).1.length<=k) (h:st.2.length<=k):(takeS z f n st).1.length<=k:=by
 unfold takeS;split
 ·exact hz
 ·split
  ·exact hz
  ·split
   ·exact hf _ (by rw [List.length_take];omega)
   ·exact hz
theorem bytesR_bnd {st:Rw} {k:Nat} (h:st.2.length<=k):(bytesR st).1.length<=k:=takeS_bnd (Nat.zero_le _) (fun b hb=>hb) (takeS_len h)
abbrev keB (k:List UInt8) (p:Pr):Bool:=!(Op.bytesLess p.key k)
theorem spidx_ac_c (k:List UInt8) (x:Pr):AC prog 231 [.ag (ePr x),.bp 0 0 0] [.c tSg [S k]] (fun v bs'=>v=B (keB k x)/\bs'=[.c tSg [S k]]):=by
 refine AC.E func231 ntmps231 ?_;intros;refine CP.SL ?_
 repeat' (first|((first|refine wA1 ?_|(refine GA ?_ ?_<;>intro hg)|(refine GV ?_;intros;simp only [nz])|refine wA11 ?_|refine wA6 ?_)<;>try refine NQ ?_)|refine wT3 ?_|with_reducible intro Q' hQ'|(refine GC ?_ ?_<;>intro hc)|simp only [laq])
 exact RA1
theorem spidx_ac (l:List Pr) (hl:l.length<=1000000)(k:List UInt8):AC prog 230 [.sl none 2 (l.map ePr),.fn 231 [.bp 0 0 0]] [.c tSg [S k]] (fun v bs'=>v=I (idxF (keB k) l)/\bs'=[.c tSg [S k]]):=by
 refine AC.E func230 ntmps230 ?_;intros
 repeat' (first|((first|refine wA1 ?_|(refine GA ?_ ?_<;>intro hg)|(refine GV ?_;intros;simp only [nz])|refine wA6 ?_)<;>try refine NQ ?_)|refine wT3 ?_|with_reducible intro Q' hQ'|(refine GC ?_ ?_<;>intro hc)|simp only [laq])
 refine cp_loopS [4,5,8,9,10,11,12,13,14,15,16,17,18] (fun a:Nat=>l.length - a) (fun a=>a<=l.length/\∀ i x,i < a->l[i]? = some x->(keB k) x=false) (fun a=>[(8,I a)]) (fun _=>[]) 0 ⟨Nat.zero_le _,fun i x h=>absurd h (by omega)⟩ (by exact Gh.W) ?_;rintro a ⟨ha,hinv⟩;refine ST0 ?_
 by_cases hlt:a < l.length
 ·have q1:decide ((a:Int) < (l.length:Int))=true:=by simp;omega
  have q2:IntKind.i64.wrap ((a:Int) + 1)=((a + 1:Nat):Int):=wrap_i64 (by omega) (by omega);have hr:(l.map ePr)[a]? = some (ePr l[a]):=by rw [List.getElem?_map,List.getElem?_eq_getElem hlt];rfl
  have h1:=spidx_ac_c k l[a]
  cases hp:(keB k) l[a] with
  | true=>
   rw [show idxF (keB k) l=(a:Int) from idxF_at hlt hp hinv]
   (try dsimp only at hp);rw [hp] at h1
   generalize l[a]=x at *
   repeat' (first|((first|refine wA1 ?_|(refine GA ?_ ?_<;>intro hg)|(refine GV ?_;intros;simp only [nz])|refine wA6 ?_)<;>try refine wN1 ?_)|refine wT3 ?_|with_reducible intro Q' hQ'|(refine GC ?_ ?_<;>intro hc)|simp only [laq])
   exact RA1
  | false=>
   have hinv2:∀ i x,i < a + 1->l[i]? = some x->(keB k) x=false:=fun i x hi hx=>by
    by_cases hia:i=a
    ·subst hia;rw [List.getElem?_eq_getElem hlt] at hx;injection hx with hx;rw [←hx];exact hp
    ·exact hinv i x (by omega) hx
   (try dsimp only at hp);rw [hp] at h1
   generalize l[a]=x at *
   repeat' (first|((first|refine wA1 ?_|(refine GA ?_ ?_<;>intro hg)|(refine GV ?_;intros;simp only [nz])|refine wA6 ?_)<;>try refine wN1 ?_)|refine wT3 ?_|with_reducible intro Q' hQ'|(refine GC ?_ ?_<;>intro hc)|simp only [laq])
   exact ⟨a + 1,by omega,⟨by omega,hinv2⟩,by exact Gh.W⟩
 ·obtain rfl:a=l.length:=by omega
  have q1:decide ((l.length:Int) < (l.length:Int))=false:=by simp
  rw [show idxF (keB k) l = -1 from idxF_no fun x hx=>by obtain ⟨i,hi⟩:=List.mem_iff_getElem?.1 hx;exact hinv i x (List.getElem?_eq_some_iff.1 hi).1 hi]
  repeat' (first|((first|refine wA1 ?_|(refine GA ?_ ?_<;>intro hg)|(refine GV ?_;intros;simp only [nz])|refine wA6 ?_)<;>try refine wN0 ?_)|refine wT3 ?_|with_reducible intro Q' hQ'|(refine GC ?_ ?_<;>intro hc)|simp only [laq])
  exact RA1
def atP (l:List Pr) (k:List UInt8):Nat×Bool:=match l.findIdx? (keB k) with
 | some n=>(n,match l[n]? with|some p=>decide (p.key=k)|none=>false)
 | none=>(l.length,false)
theorem atP_le (l:List Pr) (k:List UInt8):(atP l k).1<=l.length:=by
 unfold atP;split
 ·rename_i n h
  exact Nat.le_of_lt (List.findIdx?_eq_some_iff_getElem.1 h).1
 ·exact Nat.le_refl _
theorem sat_ac (s:Spc) (k:List UInt8) (hl:s.prs.length<=1000000):AF 218 [.ag (eSp s),S k] (.tu [I ((atP s.prs k).1:Nat),B (atP s.prs k).2]):=by
 have h1:=spidx_ac s.prs hl k;unfold idxF at h1;unfold atP
 cases hf:s.prs.findIdx? (keB k) with
 | none=>
  rw [hf] at h1;dsimp only at h1 ⊢;refine AC.E func218 ntmps218 ?_;intro X hρ hmks;iterate 2 refine CP.SL ?_
  repeat' (first|((first|refine wA1 ?_|(refine GA ?_ ?_<;>intro hg)|(refine GV ?_;intros;simp only [nz])|refine wA6 ?_|refine wD1 ?_)<;>try refine NQ ?_)|refine wT6 ?_|with_reducible intro Q' hQ'|(refine GC ?_ ?_<;>intro hc)|simp only [laq])
  exact RA0
 | some n=>
  rw [hf] at h1;dsimp only at h1 ⊢;have hn:=(List.findIdx?_eq_some_iff_getElem.1 hf).1;have hr:(s.prs.map ePr)[n]? = some (ePr s.prs[n]):=by rw [List.getElem?_map,List.getElem?_eq_getElem hn];rfl
  rw [List.getElem?_eq_getElem hn];dsimp only;have q1:decide ((n:Int) < 0)=false:=by simp
  generalize s.prs[n]=p at *;refine AC.E func218 ntmps218 ?_;intro X hρ hmks;iterate 2 refine CP.SL ?_
  repeat' (first|((first|refine wA1 ?_|(refine GA ?_ ?_<;>intro hg)|(refine GV ?_;intros;simp only [nz])|refine wA5 ?_|refine wA6 ?_|refine wD4 ?_|((with_reducible apply DW.k_any);refine DW.known rfl ?_;(with_reducible first|apply DW.sx 2);(iterate 2 (focus (simp only [ft,nm,Nat.reduceAdd,Nat.reduceBEq,List.getElem?_cons_zero,List.getElem?_cons_succ];exact rfl)));(focus (intro X V;simp only [ft,nm,Nat.reduceAdd,Nat.reduceBEq];(try (refine AP.Y ?_;dsimp only));(first|refine AP.SS ?_|fail);(try refine NX ?_);refine AP.nil ?_;(first|refine ⟨trivial,rfl,?_⟩|refine ⟨rfl,rfl,?_⟩);(repeat' (first|exact Mg.nil|apply Mg.keep rfl|apply Mg.take rfl));done));(focus (refine Exists.intro (fun _=>0) ?_;apply Exists.intro;(repeat' (first|exact Mg.nil|apply Mg.keep rfl|apply Mg.take rfl));done));(iterate 2 (focus (exact rfl)))))<;>try refine wN0 ?_)|refine wT6 ?_|with_reducible intro Q' hQ'|(refine GC ?_ ?_<;>intro hc)|simp only [laq])
  exact RA0
def lookP (s:Spc) (p:Pr):Nat×Bool×Int:=if (maySp s && prS p)=true then ((atP s.prs p.key).1,(atP s.prs p.key).2,0) else (0,false,2)
structure Spc.small (s:Spc):Prop where
 l:s.prs.length<=1000000
 s:∀ p∈s.prs,p.key.length<=1000000/\p.val.length<=1000000
theorem slook_ac (s:Spc) (p:Pr) (hs:s.small):AF 216 [.ag (eSp s),.ag (ePr p)] (.tu [I ((lookP s p).1:Nat),B (lookP s p).2.1,I (lookP s p).2.2]):=by
 have h1:=smay_ac s hs.l hs.s;have h2:=pair_ac p;have h3:=sat_ac s p.key hs.l
 cases hA:maySp s with
 | false=>
  rw [hA] at h1;rw [show lookP s p=(0,false,2) from if_neg (by simp [hA])];refine AC.E func216 ntmps216 ?_;intros;iterate 2 refine CP.SL ?_
  repeat' (first|((first|refine wA1 ?_|(refine GA ?_ ?_<;>intro hg)|(refine GV ?_;intros;simp only [nz])|refine wA6 ?_)<;>try refine NQ ?_)|refine wT3 ?_|with_reducible intro Q' hQ'|(refine GC ?_ ?_<;>intro hc)|simp only [laq])
  exact RA0
 | true=>
 rw [hA] at h1
 cases hB:prS p with
 | false=>
  rw [hB] at h2;rw [show lookP s p=(0,false,2) from if_neg (by simp [hB])];refine AC.E func216 ntmps216 ?_;intros;iterate 2 refine CP.SL ?_
  repeat' (first|((first|refine wA1 ?_|(refine GA ?_ ?_<;>intro hg)|(refine GV ?_;intros;simp only [nz])|refine wA6 ?_)<;>try refine NQ ?_)|refine wT3 ?_|with_reducible intro Q' hQ'|(refine GC ?_ ?_<;>intro hc)|simp only [laq])
  exact RA0
 | true=>
  rw [hB] at h2;rw [show lookP s p=((atP s.prs p.key).1,(atP s.prs p.key).2,0) from if_pos (by simp [hA,hB])];refine AC.E func216 ntmps216 ?_;intros;iterate 2 refine CP.SL ?_
  repeat' (first|((first|refine wA1 ?_|(refine GA ?_ ?_<;>intro hg)|(refine GV ?_;intros;simp only [nz])|refine wA6 ?_)<;>try refine NQ ?_)|refine wT3 ?_|with_reducible intro Q' hQ'|(refine GC ?_ ?_<;>intro hc)|simp only [laq])
  exact RA0
def getP (s:Spc) (k:List UInt8):List UInt8×Int:=match lookP s ⟨k,[]⟩ with
 | (n,true,0)=>(match s.prs[n]? with|some p=>(p.val,0)|none=>([],0))
 | (_,false,0)=>([],110)
 | (_,_,e)=>([],e)
theorem lookP_cases (s:Spc) (p:Pr):(lookP s p=(0,false,2)/\(maySp s && prS p)=false)\/((maySp s && prS p)=true/\((lookP s p=((atP s.prs p.key).1,false,0)/\(atP s.prs p.key).2=false)\/∃ n x,lookP s p=(n,true,0)/\s.prs[n]? = some x/\x.key=p.key)):=by
 unfold lookP
 cases h:(maySp s && prS p) with
 | false=>exact .inl ⟨rfl,rfl⟩
 | true=>
  refine .inr ⟨rfl,?_⟩;rw [if_pos rfl]
  cases h2:(atP s.prs p.key).2 with
  | false=>exact .inl ⟨rfl,rfl⟩
  | true=>
   refine .inr ?_;unfold atP at h2 ⊢
   cases hf:s.prs.findIdx? (keB p.key) with
   | none=>rw [hf] at h2;cases h2
   | some n=>
    rw [hf] at h2;dsimp only at h2 ⊢;have hn:=(List.findIdx?_eq_some_iff_getElem.1 hf).1;rw [List.getElem?_eq_getElem hn] at h2;exact ⟨n,s.prs[n],rfl,List.getElem?_eq_getElem hn,by simpa using h2⟩
theorem sget_ac (s:Spc) (k:List UInt8) (hs:s.small):AF 195 [.ag (eSp s),S k] (.tu [S (getP s k).1,I (getP s k).2]):=by
 have h1:=slook_ac s ⟨k,[]⟩ hs;rcases lookP_cases s ⟨k,[]⟩ with ⟨e,_⟩|⟨_,⟨e,_⟩|⟨n,x,e,hx,_⟩⟩
 ·have eg:getP s k=([],2):=by unfold getP;rw [e];rfl
  rw [e] at h1;rw [eg];refine AC.E func195 ntmps195 ?_;intros;iterate 2 refine CP.SL ?_
  repeat' (first|((first|refine wA1 ?_|(refine GA ?_ ?_<;>intro hg)|(refine GV ?_;intros;simp only [nz])|refine wA6 ?_)<;>try refine NQ ?_)|refine wT3 ?_|with_reducible intro Q' hQ'|(refine GC ?_ ?_<;>intro hc)|simp only [laq])
  exact RA0
 ·have eg:getP s k=([],110):=by unfold getP;rw [e];rfl
  rw [e] at h1;rw [eg];dsimp only at h1;generalize (atP s.prs k).1=j at *;refine AC.E func195 ntmps195 ?_;intros;iterate 2 refine CP.SL ?_
  repeat' (first|((first|refine wA1 ?_|(refine GA ?_ ?_<;>intro hg)|(refine GV ?_;intros;simp only [nz])|refine wA6 ?_)<;>try refine NQ ?_)|refine wT3 ?_|with_reducible intro Q' hQ'|(refine GC ?_ ?_<;>intro hc)|simp only [laq])
  exact RA0
 ·have eg:getP s k=(x.val,0):=by unfold getP;rw [e];simp only [hx]
  rw [e] at h1;rw [eg];dsimp only at h1;have hr:(s.prs.map ePr)[n]? = some (ePr x):=by rw [List.getElem?_map,hx];rfl
  have hnl:=(List.getElem?_eq_some_iff.1 hx).1;refine AC.E func195 ntmps195 ?_;intros;iterate 2 refine CP.SL ?_
  repeat' (first|((first|refine wA1 ?_|(refine GA ?_ ?_<;>intro hg)|(refine GV ?_;intros;simp only [nz])|refine wA6 ?_)<;>try refine NQ ?_)|refine wT3 ?_|with_reducible intro Q' hQ'|(refine GC ?_ ?_<;>intro hc)|simp only [laq])
  exact RA0
abbrev Rd:=Int×List UInt8
structure Cod {α:Type} (f:Rd->α×Rd) (g:α->List UInt8) (ok:α->Prop):Prop where
 fwd:∀ a rest,ok a->f (0,g a ++ rest)=(a,(0,rest))
 bwd:∀ st,(f st).2.1=0->st.2=g (f st).1 ++ (f st).2.2/\ok (f st).1
 stk:∀ st,st.1≠0->(f st).2.1≠0
theorem foldl_be (l:List UInt8):∀ x:Nat,l.foldl (fun x c=>256 * x + c.toNat) x=x * 256 ^ l.length + beN l:=by
 induction l with
 | nil=>intro x;simp [beN]
 | cons c l ih=>
  intro x;have h0:=ih (256 * 0 + c.toNat);rw [List.foldl_cons,ih];unfold beN at *;rw [List.foldl_cons,h0,List.length_cons,Nat.pow_succ];rw [Nat.add_mul,Nat.mul_zero,Nat.zero_add];have:256 * x * 256 ^ l.length=x * (256 ^ l.length * 256):=by rw [Nat.mul_comm 256 x,Nat.mul_assoc,Nat.mul_comm 256]
  omega
theorem beN_cons (y:UInt8) (b:List UInt8):beN (y :: b)=y.toNat * 256 ^ b.length + beN b:=by
 have:=foldl_be b y.toNat;simp only [beN,List.foldl_cons] at *;rw [Nat.mul_zero,Nat.zero_add];exact this
theorem putS_mod (c x m:Nat):∀ n,n<=m->putS (c * 256 ^ m + x) n=putS x n
 | 0,_=>rfl
 | n + 1,h=>by
  rw [putS,putS,putS_mod c x m n (by omega)]
  congr 2
  have hm:c * 256 ^ m=256 ^ n * (256 * (c * 256 ^ (m - n - 1))):=by
   have h1:256 ^ m=256 ^ n * (256 * 256 ^ (m - n - 1)):=by rw [←Nat.pow_succ',←Nat.pow_add];congr 1;omega
   rw [h1,Nat.mul_left_comm,Nat.mul_left_comm c 256]
  rw [hm,Nat.mul_add_div (Nat.pow_pos (by omega)),Nat.mul_add_mod]
theorem putS_beN:∀ {n:Nat} {b:List UInt8},b.length=n->putS (beN b) n=b
 | 0,b,h=>by rw [List.length_eq_zero_iff.1 h];rfl
 | n + 1,[],h=>by simp at h
 | n + 1,y :: b,h=>by
  have hb:b.length=n:=by simpa using h
  have hlt:=beN_lt b;rw [hb] at hlt;rw [beN_cons,hb,putS,putS_mod _ _ _ n (Nat.le_refl _),putS_beN hb]
  congr 1
  rw [Nat.mul_comm,Nat.mul_add_div (Nat.pow_pos (by omega)),Nat.div_eq_of_lt hlt,Nat.add_zero,Nat.mod_eq_of_lt y.toNat_lt];simp
theorem beN_putS (x:Nat):∀ n,beN (putS x n)=x % 256 ^ n
 | 0=>by simp [putS,beN,Nat.mod_one]
 | n + 1=>by
  rw [putS,beN_cons,putS_length,beN_putS x n];have:(UInt8.ofNat (x / 256 ^ n % 256)).toNat=x / 256 ^ n % 256:=by simp
  rw [this,Nat.pow_succ,Nat.mod_mul,Nat.mul_comm,Nat.add_comm]
theorem toI_u (n:Int) (h:I64 n):toI (IntKind.u64.wrap n).toNat=n:=by
 unfold I64 at h;simp [toI,IntKind.wrap,IntKind.bits,IntKind.signed];omega
theorem toI_in (x:Nat):I64 (toI x):=by
 simp [toI,I64,IntKind.wrap,IntKind.bits,IntKind.signed];omega
theorem intS_toI (x:Nat) (h:x < 2 ^ 64):intS (toI x)=putS x 8:=by
 have:(IntKind.u64.wrap (toI x)).toNat=x:=by simp [toI,IntKind.wrap,IntKind.bits,IntKind.signed];omega
 rw [intS,this]
theorem beN_intS (n:Int):beN (intS n)=(IntKind.u64.wrap n).toNat:=by
 rw [intS,beN_putS,Nat.mod_eq_of_lt];have:=wrap_u64_lt n
 simpa using this
theorem takeS_zero {α:Type} {z:α} {f:List UInt8->α×Bool} {n:Nat} {st:Rd} (h:(takeS z f n st).2.1=0) :
 st.1=0/\n<=st.2.length/\(f (st.2.take n)).2=true/\takeS z f n st=((f (st.2.take n)).1,(0,st.2.drop n)):=by
 unfold takeS at h ⊢;split at h
 ·rename_i h0;exact absurd h h0
 ·rename_i h0
  split at h
  ·simp at h
  ·rename_i h1
   split at h
   ·rename_i h2
    simp only [Int.toNat_natCast] at h2;rw [if_neg h0,if_neg h1];simp only [Int.toNat_natCast];rw [if_pos h2];exact ⟨by simpa using h0,by omega,h2,rfl⟩
   ·simp at h
theorem takeS_fwd {α:Type} {z:α} {f:List UInt8->α×Bool} {n:Nat} {b rest:List UInt8} (hb:b.length=n) (hf:(f b).2=true):takeS z f n (0,b ++ rest)=((f b).1,(0,rest)):=by
 subst hb;unfold takeS;rw [if_neg (by simp),if_neg (by simp;omega)];simp [hf]
theorem takeS_stk {α:Type} {z:α} {f:List UInt8->α×Bool} {n:Int} {st:Rd} (h:st.1≠0):(takeS z f n st).2.1≠0:=by
 unfold takeS;rw [if_pos h];exact h
theorem cod_int:Cod intR intS I64 where
 fwd a rest h:=by
  unfold intR;have:=takeS_fwd (z:=(0:Int)) (f:=intG) (n:=8) (b:=intS a) (rest:=rest) (intS_length a) rfl;rw [show ((8:Nat):Int)=8 from rfl] at this;rw [this,intG,beN_intS,toI_u a h]
 bwd st h:=by
  obtain ⟨h1,h2,h3,h4⟩:=takeS_zero (n:=8) (f:=intG) (z:=(0:Int)) (st:=st) h;have e:intR st=(toI (beN (st.2.take 8)),(0,st.2.drop 8)):=h4;have hl:(st.2.take 8).length=8:=by simp;omega
  rw [e];refine ⟨?_,toI_in _⟩;have hlt:=beN_lt (st.2.take 8);rw [hl] at hlt;dsimp only;rw [intS_toI _ (by simpa using hlt),putS_beN hl,List.take_append_drop]
 stk st h:=takeS_stk h
theorem len1' {b:List UInt8} (h:b.length=1):b=[b.headD 0]:=by
 match b,h with
 | [x],_=>rfl
theorem cod_byte:Cod byteR (fun x=>[x]) (fun _=>True) where
 fwd a rest _:=takeS_fwd (z:=(0:UInt8)) (f:=byteG) (n:=1) (b:=[a]) (rest:=rest) rfl rfl
 bwd st h:=by
  obtain ⟨h1,h2,h3,h4⟩:=takeS_zero (n:=1) (f:=byteG) (z:=(0:UInt8)) (st:=st) h;have e:byteR st=((st.2.take 1).headD 0,(0,st.2.drop 1)):=h4;have hl:(st.2.take 1).length=1:=by simp;omega
  rw [e];refine ⟨?_,trivial⟩;dsimp only;rw [←len1' hl,List.take_append_drop]
 stk st h:=takeS_stk h
def bytesF' (b:List UInt8):List UInt8:=putS b.length 4 ++ b
theorem cod_bytes:Cod bytesR bytesF' (fun b=>b.length<=65536) where
 fwd a rest h:=by
  have hn:beN (putS a.length 4)=a.length:=by rw [beN_putS,Nat.mod_eq_of_lt];simp;omega
  have e1:lenR (0,putS a.length 4 ++ (a ++ rest))=((a.length:Int),(0,a ++ rest)):=by
   have:=takeS_fwd (z:=(0:Int)) (f:=lenG) (n:=4) (b:=putS a.length 4) (rest:=a ++ rest) (putS_length _ _) (by simp [lenG,hn];exact h);rw [show ((4:Nat):Int)=4 from rfl] at this;rw [lenR,this,lenG,hn]
  unfold bytesR bytesF';rw [List.append_assoc,e1];exact takeS_fwd (z:=([]:List UInt8)) (f:=bytesG) (n:=a.length) (b:=a) (rest:=rest) rfl rfl
 bwd st h:=by
  have hz:(lenR st).2.1=0:=by
   by_cases h0:(lenR st).2.1=0
   ·exact h0
   ·exact absurd h (takeS_stk h0)
  obtain ⟨h1,h2,h3,h4⟩:=takeS_zero (n:=4) (f:=lenG) (z:=(0:Int)) (st:=st) hz;have e:lenR st=((beN (st.2.take 4):Int),(0,st.2.drop 4)):=h4;have hl:(st.2.take 4).length=4:=by simp;omega
  have hle:beN (st.2.take 4)<=65536:=by simpa [lenG] using h3
  unfold bytesR at h ⊢;rw [e] at h ⊢;obtain ⟨g1,g2,g3,g4⟩:=takeS_zero (n:=beN (st.2.take 4)) (f:=bytesG) (z:=([]:List UInt8)) (st:=(0,st.2.drop 4)) h;dsimp only at g2 g4 ⊢;rw [g4];dsimp only [bytesG,bytesF'];have hll:((st.2.drop 4).take (beN (st.2.take 4))).length=beN (st.2.take 4):=by rw [List.length_take];omega
  rw [hll,putS_beN hl,List.append_assoc,List.take_append_drop,List.take_append_drop];exact ⟨rfl,hle⟩
 stk st h:=by
  unfold bytesR;exact takeS_stk (takeS_stk h)
