/- Parts. -/
import Derived.Test.YtnjllcnjcpfbhaaGreatZS47
namespace Go.Proofs.YtnjllcnjcpfbhaaGreat
set_option linter.unusedVariables false
set_option linter.unusedSimpArgs false
open Go.RowKit Go.Proofs.Tryz
set_option maxRecDepth 100000
set_option maxHeartbeats 8000000
theorem run_ac (root:List UInt8) (hr:root.length<=1000000000) (l:List CallR) (hl:l.length<=1000000000) (hc:∀ c∈l,c.small):AF 7 [bs none root,.sl none 19 (l.map eCall)] (.tu [.sl none 5 ((runX root l).map eSt),.sl none 75 ((runY root l).map eRp),B (runOk root l)]):=(runO_ac root hr l hl hc).ro (by simp only [AV.ro,roC,roSt,roRp])
theorem run_lim {root:List UInt8} {l:List CallR} (h:runOk root l=true):l.length<=30:=by
 unfold runOk at h;rw [Bool.or_eq_true] at h;rcases h with h|h
 ·rw [of_decide_eq_true h];exact Nat.zero_le _
 ·simp only [Bool.and_eq_true,decide_eq_true_eq] at h;exact h.1.2
theorem leads_ac (root:List UInt8) (hr:root.length<=1000000000) (l:List CallR) (hl:l.length<=1000000000) (hc:∀ c∈l,c.small) (haw:AF 8 [] (B true)):AF 3 [bs none root,.sl none 19 (l.map eCall)] (B true):=by
 have h1:=run_ac root hr l hl hc
 cases hok:runOk root l with
 | false=>
  rw [hok] at h1;refine AC.E func3 ntmps3 ?_;intros
  repeat' (first|((first|refine wA1 ?_|(refine GA ?_ ?_<;>intro hg)|(refine GV ?_;intros;simp only [nz])|refine wA6 ?_|refine wD1 ?_)<;>try refine NQ ?_)|refine wT6 ?_|with_reducible intro Q' hQ'|(refine GC ?_ ?_<;>intro hc)|simp only [laq])
  exact RA0
 | true=>
  rw [hok] at h1;have hlim:=run_lim hok;have hX:runX root l=allS root l l.length:=by unfold runX;rw [if_pos hok]
  have hY:runY root l=outS root l l.length:=by unfold runY;rw [if_pos hok]
  rw [hX,hY] at h1;have hlx:=allS_len root l l.length;have hly:=outS_len root l l.length;have hrow:=fun (i:Nat) (h:i<=l.length)=>allS_at (root:=root) (l:=l) h
  generalize allS root l l.length=XS at *;generalize outS root l l.length=YS at *;have q9:((YS.length:Int) == (l.length:Int))=true:=by rw [hly];exact BEq.rfl
  refine AC.E func3 ntmps3 ?_;intros
  repeat' (first|((first|refine wA1 ?_|(refine GA ?_ ?_<;>intro hg)|(refine GV ?_;intros;simp only [nz])|refine wA6 ?_|refine wD1 ?_)<;>try refine NQ ?_)|refine wT6 ?_|with_reducible intro Q' hQ'|(refine GC ?_ ?_<;>intro hc)|simp only [laq])
  clear h1;refine cp_loopS [4,8,19,20,21,22,23,24,25,26,27,28,29,30,31,32,33,34,35,36,37,38,39,40,41,42,43,44,45,46,47,48,49,50,51,52,53,54,55,56,57,58,59,60,61,62,63] (fun a:Nat=>XS.length - a) (fun a=>a<=XS.length) (fun a=>[(8,I a)]) (fun _=>[]) 0 (Nat.zero_le _) (by exact Gh.W) ?_;intro a ha;refine ST0 ?_
  by_cases hlt:a < XS.length
  ·have q1:decide ((a:Int) < (XS.length:Int))=true:=by simp;omega
   have w1:IntKind.i64.wrap ((a:Int) + 1)=((a + 1:Nat):Int):=wrap_i64 (by omega) (by omega);have hr1:(XS.map eSt)[a]? = some (eSt (stk root l a)):=by rw [List.getElem?_map,hrow a (by omega)];rfl
   have hi:=stk_inv root l a;have h2:=stmay_ac (stk root l a) (maySt_all hi.may);rw [hi.may] at h2;have hl1:a < (XS.map eSt).length:=by rw [List.length_map];exact hlt
   by_cases h0:a=0
   ·subst h0;have q2:decide ((0:Int) < ((0:Nat):Int))=false:=rfl;generalize stk root l 0=s at *;clear haw
    repeat' (first|((first|refine wA1 ?_|(refine GA ?_ ?_<;>intro hg)|(refine GV ?_;intros;simp only [nz])|refine wA6 ?_|refine wD1 ?_)<;>(try simp only [q1,q2,w1,nq,Nat.reduceBEq,Nat.reduceAdd,Nat.reduceSub]))|refine wT6 ?_|with_reducible intro Q' hQ'|(refine GC ?_ ?_<;>intro hc)|simp only [laq])
    exact ⟨0 + 1,by omega,by omega,by exact Gh.W⟩
   ·obtain ⟨b,rfl⟩:∃ b,a=b + 1:=⟨a - 1,by omega⟩;have q2:decide ((0:Int) < ((b + 1:Nat):Int))=true:=decide_eq_true (by omega);have w2:IntKind.i64.wrap (((b + 1:Nat):Int) - 1)=((b:Nat):Int):=by rw [wrap_i64 (by omega) (by omega)];omega
    have hr0:(XS.map eSt)[b]? = some (eSt (stk root l b)):=by rw [List.getElem?_map,hrow b (by omega)];rfl
    have hl0:b < (XS.map eSt).length:=by rw [List.length_map];omega
    have hp:=stk_pos root l b;have hpl:=stk_posle root l b;generalize stk root l (b + 1)=s at *;generalize stk root l b=p at *;have w3:IntKind.i64.wrap (p.pos + 1)=p.pos + 1:=wrap_i64 (by omega) (by omega);clear haw;rcases hp with hp|hp
    ·have q3:(s.pos != p.pos)=false:=by simpa using hp
     repeat' (first|((first|refine wA1 ?_|(refine GA ?_ ?_<;>intro hg)|(refine GV ?_;intros;simp only [nz])|refine wA6 ?_|refine wD1 ?_)<;>(try simp only [q1,q2,q3,w1,w2,w3,nq,Nat.reduceBEq,Nat.reduceAdd,Nat.reduceSub]))|refine wT6 ?_|with_reducible intro Q' hQ'|(refine GC ?_ ?_<;>intro hc)|simp only [laq])
     exact ⟨b + 1 + 1,by omega,by omega,by exact Gh.W⟩
    ·have q3:(s.pos != p.pos)=true:=by simp;omega
     have q4:(s.pos != p.pos + 1)=false:=by simpa using hp
     repeat' (first|((first|refine wA1 ?_|(refine GA ?_ ?_<;>intro hg)|(refine GV ?_;intros;simp only [nz])|refine wA6 ?_|refine wD1 ?_)<;>(try simp only [q1,q2,q3,q4,w1,w2,w3,nq,Nat.reduceBEq,Nat.reduceAdd,Nat.reduceSub]))|refine wT6 ?_|with_reducible intro Q' hQ'|(refine GC ?_ ?_<;>intro hc)|simp only [laq])
     exact ⟨b + 1 + 1,by omega,by omega,by exact Gh.W⟩
  ·obtain rfl:a=XS.length:=by omega
   have q1:decide ((XS.length:Int) < (XS.length:Int))=false:=by simp
   repeat' (first|((first|refine wA1 ?_|(refine GA ?_ ?_<;>intro hg)|(refine GV ?_;intros;simp only [nz])|refine wA6 ?_|refine wD1 ?_)<;>(try simp only [q1,q9,nq,Nat.reduceBEq,Nat.reduceAdd,Nat.reduceSub]))|refine wT6 ?_|with_reducible intro Q' hQ'|(refine GC ?_ ?_<;>intro hc)|simp only [laq])
   exact RA0
