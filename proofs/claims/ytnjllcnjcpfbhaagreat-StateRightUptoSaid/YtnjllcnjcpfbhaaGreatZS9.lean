/- Parts. -/
import Derived.Test.YtnjllcnjcpfbhaaGreatZS5
namespace Go.Proofs.YtnjllcnjcpfbhaaGreat
set_option linter.unusedVariables false
set_option linter.unusedSimpArgs false
open Go.RowKit Go.Proofs.Tryz
set_option maxRecDepth 100000
set_option maxHeartbeats 8000000
theorem dC1 {p G G':Prop} (c:p) (K:G') (h:p->G'->G:=by (intro c kz;(with_reducible apply DW.k_any);refine DW.known rfl ?_;(with_reducible first|apply DW.sx 2);(iterate 2 (focus (simp only [ft,nm,Nat.reduceAdd,Nat.reduceBEq,List.getElem?_cons_zero,List.getElem?_cons_succ];exact rfl)));(focus (intro X V;simp only [ft,nm,Nat.reduceAdd,Nat.reduceBEq];(try (refine AP.Y ?_;dsimp only));((with_reducible apply AP.k_any);refine AP.C c ?_);(try refine NX ?_);refine AP.nil ?_;(first|refine ⟨trivial,rfl,?_⟩|refine ⟨rfl,rfl,?_⟩);(repeat' (first|exact Mg.nil|apply Mg.keep rfl|apply Mg.take rfl));done));(focus (refine Exists.intro (fun _=>0) ?_;apply Exists.intro;(repeat' (first|exact Mg.nil|apply Mg.keep rfl|apply Mg.take rfl));done));(iterate 2 (focus (exact rfl)));exact kz)):G:=h c K
theorem block_ac (n:S8) (b:List UInt8) (hb:b.length<=100000000):AF 214 [.ag (e8 n),bs none b] (.ag (e8 (blockS n b))):=by
 have hk:=constants_ac;refine AC.E func214 ntmps214 ?_;intros
 repeat' (first|((first|refine wA8 ?_|((with_reducible apply AP.k_any);first|refine AP.E ?_|refine AP.T ?_)|refine wA6 ?_|refine wD2 ?_)<;>(try simp only [nx,q4,rn,fq,Nat.mul_one,Bool.and_true,Bool.and_false,Nat.reduceBEq,Nat.reduceAdd,Nat.reduceSub,BEq.rfl]))|refine wT5 ?_|with_reducible intro Q' hQ'|(refine GC ?_ ?_<;>intro hc)|simp only [laq])
 refine cp_loopS [6,15,16,17,18,19,20,21,22,23,24,25,26,27,28,29,30,31,32,33,34,35,36,37,38,39,40,41,42,43,44,45,46,47,48,49,50,51,52] (fun a:Nat=>64 - a) (fun a=>a<=64) (fun a=>[(15,I a)]) (fun a=>[(2,⟨1,.c 276 (scB b a)⟩)]) 0 (Nat.zero_le _) (by exact Gh.W) ?_;intro i hi;refine ST0 ?_
 by_cases hlt:i < 64
 ·have hw:IntKind.i64.wrap ((i:Int) + 1)=((i + 1:Nat):Int):=wrap_i64 (by omega) (by omega);have d64:decide ((i:Int) < 64)=true:=by simp;omega
  have hlen:=scB_len b i hi;have hset:=scB_set b hlt
  by_cases h16:i < 16
  ·have d16:decide ((i:Int) < 16)=true:=by simp;omega
   have hx:wX b (wS b i) i=be4 b (4 * i):=if_pos h16;rw [hx] at hset;have hw4:IntKind.i64.wrap (4 * (i:Int))=4 * (i:Int):=wrap_i64 (by omega) (by omega);have hl:=load32_ac b (4 * i) hb (by omega) (by omega)
   repeat' (first|((first|refine wA8 ?_|((with_reducible apply AP.k_any);first|refine AP.E ?_|refine AP.T ?_)|refine wA6 ?_|refine wD2 ?_)<;>(try simp only [hw4,d64,d16,nx,q4,rn,fq,Nat.mul_one,Bool.and_true,Bool.and_false,Nat.reduceBEq,Nat.reduceAdd,Nat.reduceSub,BEq.rfl]))|refine wT5 ?_|with_reducible intro Q' hQ'|(refine GC ?_ ?_<;>intro hc)|simp only [laq])
   simp only [hw,Nat.mul_one,Nat.zero_add,Int.toNat_natCast];exact ⟨i + 1,by omega,by omega,by (rw [←hset];exact Gh.W)⟩
  ·have d16:decide ((i:Int) < 16)=false:=by simp;omega
   have hx:wX b (wS b i) i=smS ((wS b i).getD (i - 2) 0) 17 19 10 + (wS b i).getD (i - 7) 0 + smS ((wS b i).getD (i - 15) 0) 7 18 3 + (wS b i).getD (i - 16) 0:=if_neg h16;rw [hx] at hset;have w2:IntKind.i64.wrap ((i:Int) - 2)=((i - 2:Nat):Int):=by rw [wrap_i64 (by omega) (by omega)];omega
   have w7:IntKind.i64.wrap ((i:Int) - 7)=((i - 7:Nat):Int):=by rw [wrap_i64 (by omega) (by omega)];omega
   have w15:IntKind.i64.wrap ((i:Int) - 15)=((i - 15:Nat):Int):=by rw [wrap_i64 (by omega) (by omega)];omega
   have w16:IntKind.i64.wrap ((i:Int) - 16)=((i - 16:Nat):Int):=by rw [wrap_i64 (by omega) (by omega)];omega
   have g2:=scB_at b (n:=i) (i:=i - 2) (by omega);have g7:=scB_at b (n:=i) (i:=i - 7) (by omega);have g15:=scB_at b (n:=i) (i:=i - 15) (by omega);have g16:=scB_at b (n:=i) (i:=i - 16) (by omega);generalize (wS b i).getD (i - 2) 0=x2 at *;generalize (wS b i).getD (i - 7) 0=x7 at *;generalize (wS b i).getD (i - 15) 0=x15 at *;generalize (wS b i).getD (i - 16) 0=x16 at *;have h1:=small_ac x2 17 19 10 (by omega) (by omega) (by omega);have h2:=small_ac x15 7 18 3 (by omega) (by omega) (by omega)
   repeat' (first|((first|refine wA8 ?_|((with_reducible apply AP.k_any);first|refine AP.E ?_|refine AP.T ?_)|refine aC1 h1 ?_|refine aC1 h2 ?_|refine wA6 ?_|refine wD2 ?_|refine dC1 h1 ?_|refine dC1 h2 ?_)<;>(try simp only [w2,w7,w15,w16,d64,d16,nx,q4,rn,fq,Nat.mul_one,Bool.and_true,Bool.and_false,Nat.reduceBEq,Nat.reduceAdd,Nat.reduceSub,BEq.rfl]))|refine wT5 ?_|with_reducible intro Q' hQ'|(refine GC ?_ ?_<;>intro hc)|simp only [laq])
   simp only [hw];exact ⟨i + 1,by omega,by omega,by (rw [←hset];exact Gh.W)⟩
 ·obtain rfl:i=64:=by omega
  have hgw:∀ i,i < 64->(scB b 64)[i]? = some (Q4 ((wS b 64).getD i 0)):=fun i h=>scB_at b h
  have hl64:=scB_len b 64 (Nat.le_refl _);generalize scB b 64=W at *
  repeat' (first|((first|refine wA8 ?_|((with_reducible apply AP.k_any);first|refine AP.E ?_|refine AP.T ?_)|refine wA6 ?_|refine wD2 ?_)<;>(try simp only [oc_Q4,nx,q4,rn,fq,Nat.mul_one,Bool.and_true,Bool.and_false,Nat.reduceBEq,Nat.reduceAdd,Nat.reduceSub,BEq.rfl]))|refine wT5 ?_|with_reducible intro Q' hQ'|(refine GC ?_ ?_<;>intro hc)|simp only [laq])
  have hgk:∀ i,i < 64->(K32.map Q4)[i]? = some (Q4 (K32.getD i 0)):=fun i h=>K32_at h
  generalize K32.map Q4=KK at *;refine cp_loopS [8,9,10,11,12,13,55,56,57,58,59,60,61,62,63,64,65,66,67,68,69,70,71,72,73,74,75,76,77,78,79,80,81,82,83,84,85,86,87,88,89,90,91,92,93,94,95,96,97,98,99,100,101,102,103,104,105,106,107,108,109,110,111,112,113,114,115] (fun a:Nat=>64 - a) (fun a=>a<=64) (fun a=>[(55,I a)]) (fun a=>[(3,⟨1,.c 257 (e8 (rS n b a))⟩)]) 0 (Nat.zero_le _) (by exact Gh.W) ?_;clear hk hlt hi;intro i hi;refine ST0 ?_
  by_cases hlt:i < 64
  ·have hw:IntKind.i64.wrap ((i:Int) + 1)=((i + 1:Nat):Int):=wrap_i64 (by omega) (by omega);have d64:decide ((i:Int) < 64)=true:=by simp;omega
   have hr:rS n b (i + 1)=rnd (rS n b i) (K32.getD i 0) ((wS b 64).getD i 0):=rfl;have gk:=hgk i hlt;have gw:=hgw i hlt;generalize rS n b i=s at *;generalize K32.getD i 0=k at *;generalize (wS b 64).getD i 0=w at *;have h1:=turned_ac s.e 6 11 25 (by omega) (by omega) (by omega);have h2:=turned_ac s.a 2 13 22 (by omega) (by omega) (by omega)
   repeat' (first|((first|refine wA8 ?_|((with_reducible apply AP.k_any);first|refine AP.E ?_|refine AP.T ?_)|refine aC1 h1 ?_|refine aC1 h2 ?_|refine wA6 ?_|refine wD2 ?_|refine dC1 h1 ?_|refine dC1 h2 ?_)<;>(try simp only [d64,cpy,Int.reduceToNat,Nat.reduceMul,Nat.zero_add,Nat.min_self,List.take_succ_cons,List.take_zero,List.drop_succ_cons,List.drop_zero,List.cons_append,List.nil_append,List.append_nil,List.length_cons,List.length_nil,nx,q4,rn,fq,Nat.mul_one,Bool.and_true,Bool.and_false,Nat.reduceBEq,Nat.reduceAdd,Nat.reduceSub,BEq.rfl]))|refine wT5 ?_|with_reducible intro Q' hQ'|(refine GC ?_ ?_<;>intro hc)|simp only [laq])
   simp only [hw];exact ⟨i + 1,by omega,by omega,by (rw [hr];exact Gh.W)⟩
  ·obtain rfl:i=64:=by omega
   have hbl:blockS n b=⟨n.a + (rS n b 64).a,n.b + (rS n b 64).b,n.c + (rS n b 64).c,n.d + (rS n b 64).d,n.e + (rS n b 64).e,n.f + (rS n b 64).f,n.g + (rS n b 64).g,n.h + (rS n b 64).h⟩:=rfl;generalize rS n b 64=s at *;rw [hbl]
   repeat' (first|((first|refine wA8 ?_|((with_reducible apply AP.k_any);first|refine AP.E ?_|refine AP.T ?_)|refine wA6 ?_|refine wD2 ?_)<;>(try simp only [nx,q4,rn,fq,Nat.mul_one,Bool.and_true,Bool.and_false,Nat.reduceBEq,Nat.reduceAdd,Nat.reduceSub,BEq.rfl]))|refine wT5 ?_|with_reducible intro Q' hQ'|(refine GC ?_ ?_<;>intro hc)|simp only [laq])
   refine cp_rounds 9 ?_
   repeat' (first|((first|refine wA8 ?_|((with_reducible apply AP.k_any);first|refine AP.E ?_|refine AP.T ?_)|refine wA6 ?_|refine wD2 ?_)<;>(try simp only [wrap_lit,Int.reduceAdd,Int.reduceLE,Int.reduceLT,Int.reduceNeg,Int.reduceToNat,Nat.reduceMul,decide_true,decide_false,Nat.zero_add,List.set_cons_succ,List.set_cons_zero,nx,q4,rn,fq,Nat.mul_one,Bool.and_true,Bool.and_false,Nat.reduceBEq,Nat.reduceAdd,Nat.reduceSub,BEq.rfl]))|refine wT5 ?_|with_reducible intro Q' hQ'|(refine GC ?_ ?_<;>intro hc)|simp only [laq])
   exact RA0
