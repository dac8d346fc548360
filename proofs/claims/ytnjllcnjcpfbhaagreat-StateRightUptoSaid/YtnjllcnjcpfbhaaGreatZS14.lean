/- Parts. -/
import Derived.Test.YtnjllcnjcpfbhaaGreatZS11
namespace Go.Proofs.YtnjllcnjcpfbhaaGreat
set_option linter.unusedVariables false
set_option linter.unusedSimpArgs false
open Go.RowKit Go.Proofs.Tryz
set_option maxRecDepth 100000
set_option maxHeartbeats 8000000
abbrev eN (s:S8):List (List AV):=[eQ s.a,eQ s.b,eQ s.c,eQ s.d,eQ s.e,eQ s.f,eQ s.g,eQ s.h]
theorem eN_at (m:S8) {i:Nat} (h:i < 8):(eN m)[i]? = some (eQ (mw m i)):=by
 rcases i with _ | _ | _ | _ | _ | _ | _ | _|i<;>first|rfl|(exfalso;omega)
theorem wb_at (m:S8) {i k:Nat} (h:i < 8) (hk:k < 4):(wordsB m)[4 * i + k]? = (putS (mw m i).toNat 4)[k]?:=by
 rcases i with _ | _ | _ | _ | _ | _ | _ | _|i<;>rcases k with _ | _ | _ | _|k<;>first|rfl|(exfalso;omega)
theorem kQ_at {i:Nat} (h:i < 64):(K32.map eQ)[i]? = some (eQ (K32.getD i 0)):=by
 have:K32.length=64:=rfl;simp [List.getD_eq_getElem?_getD,List.getElem?_eq_getElem (show i < K32.length by omega)]
theorem dsha_ac (b:List UInt8) (hb:b.length<=1000000):AF 154 [bs none b] (tg (shaS b)):=by
 have h1:=whole_ac b (by omega);have h2:=(dconstants_ac).ro (r2:=.sl none 1 (K32.map eQ)) (by simp only [AV.ro,ro_Q]);rw [shaS_eq];obtain ⟨m,hm1,hm2⟩:=whole_len b;generalize wholeS b=all at *;refine AC.E func154 ntmps154 ?_;intros;refine CP.gh gh_slot ?_;refine NX ?_
 repeat' (first|((first|refine wA8 ?_|((with_reducible apply AP.k_any);first|refine AP.E ?_|refine AP.T ?_)|refine wA6 ?_|refine wD2 ?_)<;>(try simp only [nx,q4,rn,fq,Nat.mul_one,Bool.and_true,Bool.and_false,Nat.reduceBEq,Nat.reduceAdd,Nat.reduceSub,BEq.rfl]))|refine wT5 ?_|with_reducible intro Q' hQ'|(refine GC ?_ ?_<;>intro hc)|simp only [laq])
 have hgk:∀ i,i < 64->(K32.map eQ)[i]? = some (eQ (K32.getD i 0)):=fun i h=>kQ_at h
 have hkl:(K32.map eQ).length=64:=rfl;generalize K32.map eQ=KK at *;refine cp_loopS [6,7,8,9,10,11,12,13,14,15,16,17,18,19,20,29,30,31,32,33,34,35,36,37,38,39,40,41,42,43,44,45,46,47,48,49,50,51,52,53,54,55,56,57,58,59,60,61,62,63,64,65,66,67,68,69,70,71,72,73,74,75,76,77,78,79,80,81,82,83,84,85,86,87,88,89,90,91,92,93,94,95,96,97,98,99,100,101,102,103,104,105,106,107,108,109,110,111,112,113,114,115,116,117,118,119,120,121,122,123,124,125,126,127,128,129,130,131,132,133,134,135,136,137,138,139,140,141,142,143,144,145,146,147,148,149,150,151,152,153,154,155,156,157,158,159,160,161,162,163,164,165,166,167,168,169,170,171,172,173,174,175] (fun a:Nat=>m - a) (fun a=>a<=m) (fun a=>[(6,I ((64 * a:Nat):Int))]) (fun a=>[(1,⟨1,.r tQ 1 (eN (foldB s8z ((chS all).take a)))⟩)]) 0 (Nat.zero_le _) (by exact Gh.W) ?_;clear h1 h2;intro i hi;refine ST0 ?_
 by_cases hlt:i < m
 ·have hw:IntKind.i64.wrap (((64 * i:Nat):Int) + 64)=((64 * (i + 1):Nat):Int):=by rw [wrap_i64 (by omega) (by omega)];omega
  have d0:decide (((64 * i:Nat):Int) < (all.length:Int))=true:=by simp;omega
  have hc:(chS all)[i]? = some ((all.drop (64 * i)).take 64):=by
   have:i < all.length / 64:=by omega
   simp [chS,this]
  have hs:=foldB_take (n:=s8z) hc;have hcl:((all.drop (64 * i)).take 64).length=64:=by simp;omega
  have hsl:List.take (64 * (i + 1) - 64 * i) (List.drop (64 * i) all)=(all.drop (64 * i)).take 64:=by congr 1;omega
  generalize foldB s8z (List.take i (chS all))=n at *;generalize (all.drop (64 * i)).take 64=c at *;have h3:=(schedule_ac c hcl).ro (r2:=.sl none 1 ((wS c 64).map eQ)) (by simp only [AV.ro,ro_Q])
  repeat' (first|((first|refine wA8 ?_|((with_reducible apply AP.k_any);first|refine AP.E ?_|refine AP.T ?_)|refine wA6 ?_|refine wD2 ?_)<;>(try simp only [hw,d0,hsl,Int.toNat_natCast,nx,q4,rn,fq,Nat.mul_one,Bool.and_true,Bool.and_false,Nat.reduceBEq,Nat.reduceAdd,Nat.reduceSub,BEq.rfl]))|refine wT5 ?_|with_reducible intro Q' hQ'|(refine GC ?_ ?_<;>intro hc)|simp only [laq])
  have hgw:∀ i,i < 64->((wS c 64).map eQ)[i]? = some (eQ ((wS c 64).getD i 0)):=fun i h=>wQ_at c h
  have hwl:=wQ_len c 64;generalize (wS c 64).map eQ=WW at *;refine cp_loopS [8,9,10,11,12,13,14,15,16,17,18,19,20,65,66,67,68,69,70,71,72,73,74,75,76,77,78,79,80,81,82,83,84,85,86,87,88,89,90,91,92,93,94,95,96,97,98,99,100,101,102,103,104,105,106,107,108,109,110,111,112,113,114,115,116,117,118,119] (fun a:Nat=>64 - a) (fun a=>a<=64) (fun a=>[(16,I a),(8,Q4 (rS n c a).a),(9,Q4 (rS n c a).b),(10,Q4 (rS n c a).c),(11,Q4 (rS n c a).d),(12,Q4 (rS n c a).e),(13,Q4 (rS n c a).f),(14,Q4 (rS n c a).g),(15,Q4 (rS n c a).h)]) (fun _=>[]) 0 (Nat.zero_le _) (by exact Gh.W) ?_;intro t ht;refine ST0 ?_
  by_cases htt:t < 64
  ·have hw1:IntKind.i64.wrap ((t:Int) + 1)=((t + 1:Nat):Int):=wrap_i64 (by omega) (by omega);have d64:decide ((t:Int) < 64)=true:=by simp;omega
   have hr:rS n c (t + 1)=rnd (rS n c t) (K32.getD t 0) ((wS c 64).getD t 0):=rfl;have gk:=hgk t htt;have gw:=hgw t htt;generalize rS n c t=s at *;generalize K32.getD t 0=k at *;generalize (wS c 64).getD t 0=w at *;have h1:=dturns_ac s.e 6 11 25 (by omega) (by omega) (by omega);have h2:=dturns_ac s.a 2 13 22 (by omega) (by omega) (by omega)
   repeat' (first|((first|refine wA8 ?_|((with_reducible apply AP.k_any);first|refine AP.E ?_|refine AP.T ?_)|refine aC1 h1 ?_|refine aC1 h2 ?_|refine wA6 ?_|refine wD2 ?_|refine dC1 h1 ?_|refine dC1 h2 ?_)<;>(try simp only [d64,ch_eq,maj_eq,nx,q4,rn,fq,Nat.mul_one,Bool.and_true,Bool.and_false,Nat.reduceBEq,Nat.reduceAdd,Nat.reduceSub,BEq.rfl]))|refine wT5 ?_|with_reducible intro Q' hQ'|(refine GC ?_ ?_<;>intro hc)|simp only [laq])
   simp only [hw1];exact ⟨t + 1,by omega,by omega,by (rw [hr];exact Gh.W)⟩
  ·obtain rfl:t=64:=by omega
   have d64:decide (((64:Nat):Int) < 64)=false:=by simp
   have hbl:blockS n c=⟨n.a + (rS n c 64).a,n.b + (rS n c 64).b,n.c + (rS n c 64).c,n.d + (rS n c 64).d,n.e + (rS n c 64).e,n.f + (rS n c 64).f,n.g + (rS n c 64).g,n.h + (rS n c 64).h⟩:=rfl;generalize rS n c 64=s at *
   repeat' (first|((first|refine wA8 ?_|((with_reducible apply AP.k_any);first|refine AP.E ?_|refine AP.T ?_)|refine wA6 ?_|refine wD2 ?_)<;>(try simp only [d64,hw,nx,q4,rn,fq,Nat.mul_one,Bool.and_true,Bool.and_false,Nat.reduceBEq,Nat.reduceAdd,Nat.reduceSub,BEq.rfl]))|refine wT5 ?_|with_reducible intro Q' hQ'|(refine GC ?_ ?_<;>intro hc)|simp only [laq])
   exact ⟨i + 1,by omega,by omega,by (rw [hs,hbl];exact Gh.W)⟩
 ·obtain rfl:i=m:=by omega
  have d0:decide (((64 * i:Nat):Int) < (all.length:Int))=false:=by simp;omega
  have htk:(chS all).take i=chS all:=List.take_of_length_le (by simp [chS];omega);rw [htk];generalize foldB s8z (chS all)=n at *
  repeat' (first|((first|refine wA8 ?_|((with_reducible apply AP.k_any);first|refine AP.E ?_|refine AP.T ?_)|refine wA6 ?_|refine wD2 ?_)<;>(try simp only [d0,nx,q4,rn,fq,Nat.mul_one,Bool.and_true,Bool.and_false,Nat.reduceBEq,Nat.reduceAdd,Nat.reduceSub,BEq.rfl]))|refine wT5 ?_|with_reducible intro Q' hQ'|(refine GC ?_ ?_<;>intro hc)|simp only [laq])
  refine cp_loopS [22,23,24,176,177,178,179,180,181,182,183,184,185,186,187,188,189,190,191,192,193,194,195,196,197,198] (fun a:Nat=>8 - a) (fun a=>a<=8) (fun a=>[(22,I a)]) (fun a=>[(2,⟨1,.c 58 (mixT (wordsB n) (4 * a))⟩)]) 0 (Nat.zero_le _) (by exact Gh.W) ?_;intro j hj;refine ST0 ?_
  by_cases hjj:j < 8
  ·have hwj:IntKind.i64.wrap ((j:Int) + 1)=((j + 1:Nat):Int):=wrap_i64 (by omega) (by omega);have hw4:IntKind.i64.wrap (4 * (j:Int))=((4 * j:Nat):Int):=wrap_i64 (by omega) (by omega);have d8:decide ((j:Int) < 8)=true:=by simp;omega
   have gn:=eN_at n hjj;have hwb:∀ k,k < 4->(wordsB n)[4 * j + k]? = (putS (mw n j).toNat 4)[k]?:=fun k hk=>wb_at n hjj hk
   have hwl:(wordsB n).length=32:=rfl;have h5:=(rput_ac (mw n j).toNat 4 (by omega) (by have:=u32_lt (mw n j);omega)).ro (r2:=bs none (putS (mw n j).toNat 4)) (by simp only [AV.ro,ro_B]);have hpl:=putS_length (mw n j).toNat 4;generalize putS (mw n j).toNat 4=y at *;generalize mw n j=x at *;generalize wordsB n=z at *
   repeat' (first|((first|refine wA8 ?_|((with_reducible apply AP.k_any);first|refine AP.E ?_|refine AP.T ?_)|refine wA6 ?_|refine wD2 ?_)<;>(try simp only [d8,nx,q4,rn,fq,Nat.mul_one,Bool.and_true,Bool.and_false,Nat.reduceBEq,Nat.reduceAdd,Nat.reduceSub,BEq.rfl]))|refine wT5 ?_|with_reducible intro Q' hQ'|(refine GC ?_ ?_<;>intro hc)|simp only [laq])
   refine cp_loopS [24,186,187,188,189,190,191,192,193,194,195,196,197,198] (fun k:Nat=>4 - k) (fun k=>k<=4) (fun k=>[(24,I k)]) (fun k=>[(2,⟨1,.c 58 (mixT z (4 * j + k))⟩)]) 0 (Nat.zero_le _) (by exact Gh.W) ?_;intro k hk;refine ST0 ?_
   by_cases hkk:k < 4
   ·have hwk:IntKind.i64.wrap ((k:Int) + 1)=((k + 1:Nat):Int):=wrap_i64 (by omega) (by omega);have hwa:IntKind.i64.wrap (((4 * j:Nat):Int) + (k:Int))=((4 * j + k:Nat):Int):=wrap_i64 (by omega) (by omega);have d4:decide ((k:Int) < 4)=true:=by simp;omega
    have hset:=mixT_set (l:=z) (i:=4 * j + k) (by omega)
    have hzk:z[4 * j + k]'(by omega)=y[k]'(by omega):=by
     have:=hwb k hkk;rw [List.getElem?_eq_getElem (by omega),List.getElem?_eq_getElem (by omega)] at this;exact Option.some.inj this
    rw [hzk] at hset;have hyk:(y.map eB)[k]? = some (eB (y[k]'(by omega))):=by simp [show k < y.length by omega]
    generalize y[k]'(by omega)=c at *;have hml:=mixT_len z (4 * j + k)
    repeat' (first|((first|refine wA8 ?_|((with_reducible apply AP.k_any);first|refine AP.E ?_|refine AP.T ?_)|refine wA6 ?_|refine wD2 ?_)<;>(try simp only [d4,hw4,hwa,Int.toNat_natCast,nx,q4,rn,fq,Nat.mul_one,Bool.and_true,Bool.and_false,Nat.reduceBEq,Nat.reduceAdd,Nat.reduceSub,BEq.rfl]))|refine wT5 ?_|with_reducible intro Q' hQ'|(refine GC ?_ ?_<;>intro hc)|simp only [laq])
    simp only [hwk];exact ⟨k + 1,by omega,by omega,by (rw [show 4 * j + (k + 1)=4 * j + k + 1 from rfl,←hset];exact Gh.W)⟩
   ·obtain rfl:k=4:=by omega
    have d4:decide (((4:Nat):Int) < 4)=false:=by simp
    repeat' (first|((first|refine wA8 ?_|((with_reducible apply AP.k_any);first|refine AP.E ?_|refine AP.T ?_)|refine wA6 ?_|refine wD2 ?_)<;>(try simp only [d4,hwj,nx,q4,rn,fq,Nat.mul_one,Bool.and_true,Bool.and_false,Nat.reduceBEq,Nat.reduceAdd,Nat.reduceSub,BEq.rfl]))|refine wT5 ?_|with_reducible intro Q' hQ'|(refine GC ?_ ?_<;>intro hc)|simp only [laq])
    exact ⟨j + 1,by omega,by omega,by (rw [show 4 * (j + 1)=4 * j + 4 from rfl];exact Gh.W)⟩
  ·obtain rfl:j=8:=by omega
   have d8:decide (((8:Nat):Int) < 8)=false:=by simp
   rw [show 4 * 8=32 from rfl,mixT_32]
   repeat' (first|((first|refine wA8 ?_|((with_reducible apply AP.k_any);first|refine AP.E ?_|refine AP.T ?_)|refine wA6 ?_|refine wD2 ?_)<;>(try simp only [d8,nx,q4,rn,fq,Nat.mul_one,Bool.and_true,Bool.and_false,Nat.reduceBEq,Nat.reduceAdd,Nat.reduceSub,BEq.rfl]))|refine wT5 ?_|with_reducible intro Q' hQ'|(refine GC ?_ ?_<;>intro hc)|simp only [laq])
   exact RA0
