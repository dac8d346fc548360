/- Parts. -/
import Derived.Test.YtnjllcnjcpfbhaaGreatZS16
namespace Go.Proofs.YtnjllcnjcpfbhaaGreat
set_option linter.unusedVariables false
set_option linter.unusedSimpArgs false
open Go.RowKit Go.Proofs.Tryz
set_option maxRecDepth 100000
set_option maxHeartbeats 8000000
def mrg:List Int->List Int->List Int
 | [],b=>b
 | a :: l,[]=>a :: l
 | x :: a,y :: b=>if x < y then x :: mrg a (y :: b) else if y < x then y :: mrg (x :: a) b else mrg a (y :: b)
termination_by a b=>a.length + b.length
theorem mrg_nil_l (b:List Int):mrg [] b=b:=by rw [mrg]
theorem mrg_nil_r (a:List Int):mrg a []=a:=by cases a<;>rw [mrg]
theorem mrg_cons (x y:Int) (a b:List Int):mrg (x :: a) (y :: b)=if x < y then x :: mrg a (y :: b) else if y < x then y :: mrg (x :: a) b else mrg a (y :: b):=by rw [mrg]
def unionS (a b:List Int):List Int×Int:=if (mayR a && mayR b)=false then ([],2) else if 32 < (mrg a b).length then ([],4) else (mrg a b,0)
theorem mayR_len {l:List Int} (h:mayR l=true):l.length<=32:=by
 simp only [mayR,Bool.and_eq_true,decide_eq_true_eq] at h;exact h.1
theorem runionO_ac (a b:List Int) (ha:a.length<=1000000) (hb:b.length<=1000000):AF 223 [.sl none 1 (a.map eI),.sl none 1 (b.map eI)] (.tu [.sl (some 3) 1 ((unionS a b).1.map eI),I (unionS a b).2]):=by
 have h1:=rmay_ac a ha;have h2:=rmay_ac b hb
 cases hA:mayR a with
 | false=>
  rw [hA] at h1;rw [show unionS a b=([],2) from if_pos (by rw [hA];rfl)];refine AC.E func223 ntmps223 ?_;intro X hρ hmks;iterate 2 refine CP.SL ?_
  repeat' (first|((first|refine wA1 ?_|(refine GA ?_ ?_<;>intro hg)|(refine GV ?_;intros;simp only [nz])|refine wA6 ?_|refine wD1 ?_)<;>try refine NQ ?_)|refine wT6 ?_|with_reducible intro Q' hQ'|(refine GC ?_ ?_<;>intro hc)|simp only [laq])
  refine cp_scope hρ RetQ.ng ?_
  repeat' (first|((first|refine aC1 h1 ?_|refine wA1 ?_|(refine GA ?_ ?_<;>intro hg)|(refine GV ?_;intros;simp only [nz])|refine wA6 ?_|refine wD4 ?_|refine dC1 h1 ?_)<;>try refine NQ ?_)|refine wT6 ?_|with_reducible intro Q' hQ'|(refine GC ?_ ?_<;>intro hc)|simp only [laq])
  exact RA0
 | true=>
 rw [hA] at h1
 cases hB:mayR b with
 | false=>
  rw [hB] at h2
  by_cases hab:a=b
  ·rw [hab,hB] at hA;cases hA
  rw [show unionS a b=([],2) from if_pos (by rw [hA,hB];rfl)];refine AC.E func223 ntmps223 ?_;intro X hρ hmks;iterate 2 refine CP.SL ?_
  repeat' (first|((first|refine wA1 ?_|(refine GA ?_ ?_<;>intro hg)|(refine GV ?_;intros;simp only [nz])|refine wA6 ?_|refine wD1 ?_)<;>try refine NQ ?_)|refine wT6 ?_|with_reducible intro Q' hQ'|(refine GC ?_ ?_<;>intro hc)|simp only [laq])
  refine cp_scope hρ RetQ.ng ?_
  repeat' (first|((first|refine aC1 h1 ?_|refine aC1 h2 ?_|refine wA1 ?_|(refine GA ?_ ?_<;>intro hg)|(refine GV ?_;intros;simp only [nz])|refine wA6 ?_|refine wD4 ?_|refine dC1 h1 ?_|refine dC1 h2 ?_)<;>try refine NQ ?_)|refine wT6 ?_|with_reducible intro Q' hQ'|(refine GC ?_ ?_<;>intro hc)|simp only [laq])
  exact RA0
 | true=>
  rw [hB] at h2;have la:=mayR_len hA;have lb:=mayR_len hB;have hU:unionS a b=if 32 < (mrg a b).length then ([],4) else (mrg a b,0):=if_neg (by rw [hA,hB];simp)
  rw [hU];refine AC.E func223 ntmps223 ?_;intro X hρ hmks
  repeat' (first|((first|refine wA1 ?_|(refine GA ?_ ?_<;>intro hg)|(refine GV ?_;intros;simp only [nz])|refine wA6 ?_|refine wD1 ?_)<;>try refine NQ ?_)|refine wT6 ?_|with_reducible intro Q' hQ'|(refine GC ?_ ?_<;>intro hc)|simp only [laq])
  refine cp_scope hρ RetQ.ng ?_
  repeat' (first|((first|refine aC1 h1 ?_|refine aC1 h2 ?_|refine wA1 ?_|(refine GA ?_ ?_<;>intro hg)|(refine GV ?_;intros;simp only [nz])|refine wA6 ?_|refine wD4 ?_|refine dC1 h1 ?_|refine dC1 h2 ?_)<;>try refine NQ ?_)|refine wT6 ?_|with_reducible intro Q' hQ'|(refine GC ?_ ?_<;>intro hc)|simp only [laq])
  clear h1 h2;refine CP.gh (gh_nil (t:=6) (e:=3) (k:=1) rfl) ?_;refine NX ?_;refine CP.SL ?_;refine cp_label ?_
  repeat' (first|((first|refine wA1 ?_|(refine GA ?_ ?_<;>intro hg)|(refine GV ?_;intros;simp only [nz])|refine wA6 ?_|refine wD1 ?_)<;>try refine NQ ?_)|refine wT6 ?_|with_reducible intro Q' hQ'|(refine GC ?_ ?_<;>intro hc)|simp only [laq])
  refine cp_loopS [6,7,8,17,18,19,20,21,22,23,24,25,26,27,28,29,30,31,32,33,34,35,36,37,38,39,40,41,42,43,44,45,46,47,48,49,50,51,52,53,54,55,56,57,58,59,60,61,62,63,64,65,66,67,68,69,70,71,72,73,74,75,76] (fun s:Nat×Nat×List Int=>(a.length - s.1) + (b.length - s.2.1)) (fun s=>s.1<=a.length/\s.2.1<=b.length/\mrg a b=s.2.2 ++ mrg (a.drop s.1) (b.drop s.2.1)/\s.2.2.length<=s.1 + s.2.1) (fun s=>[(7,I s.1),(8,I s.2.1),(6,.hd 0 (s.2.2.length + 1))]) (fun s=>[(0,⟨s.2.2.length + 1,.r 3 1 (s.2.2.map eI)⟩),(1,⟨s.2.2.length,.x⟩)]) (0,0,[]) ⟨Nat.zero_le _,Nat.zero_le _,rfl,Nat.le_refl _⟩ (by exact Gh.W) ?_;rintro ⟨i,k,out⟩ ⟨hi,hk,hinv,hol⟩;dsimp only at hi hk hinv hol;refine ST0 ?_
  by_cases hia:i=a.length
  ·subst hia;have q1:((a.length:Int) == (a.length:Int))=true:=by simp
   rw [List.drop_length,mrg_nil_l] at hinv;have hlA:(out.map eI).length + ((b.drop k).map eI).length<=1000000000:=by simp;omega
   have e9:(b.drop k).take (b.length - k)=b.drop k:=List.take_of_length_le (by simp);rw [hinv];generalize hM:out ++ b.drop k=M at *;have hMm:out.map eI ++ (b.drop k).map eI=M.map eI:=by rw [←hM,List.map_append]
   have hl0:=hinv
   by_cases hlen:32 < M.length
   ·have q5:decide ((32:Int) < (M.length:Int))=true:=decide_eq_true (by omega);rw [if_pos hlen]
    repeat' (first|((first|refine wA1 ?_|(refine GA ?_ ?_<;>intro hg)|(refine GV ?_;intros;simp only [nz])|refine wA6 ?_|refine wD1 ?_)<;>(try simp only [q1,e9,hMm,q5,nq,Nat.reduceBEq,Nat.reduceAdd,Nat.reduceSub]))|refine wT6 ?_|with_reducible intro Q' hQ'|(refine GC ?_ ?_<;>intro hc)|simp only [laq])
    exact RA0
   ·have q5:decide ((32:Int) < (M.length:Int))=false:=decide_eq_false (by omega);rw [if_neg hlen]
    repeat' (first|((first|refine wA1 ?_|(refine GA ?_ ?_<;>intro hg)|(refine GV ?_;intros;simp only [nz])|refine wA6 ?_|refine wD1 ?_)<;>(try simp only [q1,e9,hMm,q5,nq,Nat.reduceBEq,Nat.reduceAdd,Nat.reduceSub]))|refine wT6 ?_|with_reducible intro Q' hQ'|(refine GC ?_ ?_<;>intro hc)|simp only [laq])
    exact RA0
  ·have q1:((i:Int) == (a.length:Int))=false:=by rw [beq_eq_false_iff_ne];omega
   have hia':i < a.length:=by omega
   by_cases hkb:k=b.length
   ·subst hkb;have q2:((b.length:Int) == (b.length:Int))=true:=by simp
    rw [List.drop_length,mrg_nil_r] at hinv;have hlA:(out.map eI).length + ((a.drop i).map eI).length<=1000000000:=by simp;omega
    have e9:(a.drop i).take (a.length - i)=a.drop i:=List.take_of_length_le (by simp);rw [hinv];generalize hM:out ++ a.drop i=M at *;have hMm:out.map eI ++ (a.drop i).map eI=M.map eI:=by rw [←hM,List.map_append]
    by_cases hlen:32 < M.length
    ·have q5:decide ((32:Int) < (M.length:Int))=true:=decide_eq_true (by omega);rw [if_pos hlen]
     repeat' (first|((first|refine wA1 ?_|(refine GA ?_ ?_<;>intro hg)|(refine GV ?_;intros;simp only [nz])|refine wA6 ?_|refine wD1 ?_)<;>(try simp only [q1,q2,e9,hMm,q5,nq,Nat.reduceBEq,Nat.reduceAdd,Nat.reduceSub]))|refine wT6 ?_|with_reducible intro Q' hQ'|(refine GC ?_ ?_<;>intro hc)|simp only [laq])
     exact RA0
    ·have q5:decide ((32:Int) < (M.length:Int))=false:=decide_eq_false (by omega);rw [if_neg hlen]
     repeat' (first|((first|refine wA1 ?_|(refine GA ?_ ?_<;>intro hg)|(refine GV ?_;intros;simp only [nz])|refine wA6 ?_|refine wD1 ?_)<;>(try simp only [q1,q2,e9,hMm,q5,nq,Nat.reduceBEq,Nat.reduceAdd,Nat.reduceSub]))|refine wT6 ?_|with_reducible intro Q' hQ'|(refine GC ?_ ?_<;>intro hc)|simp only [laq])
     exact RA0
   ·have q2:((k:Int) == (b.length:Int))=false:=by rw [beq_eq_false_iff_ne];omega
    have hkb':k < b.length:=by omega
    have hra:(a.map eI)[i]? = some (eI a[i]):=by rw [List.getElem?_map,List.getElem?_eq_getElem hia'];rfl
    have hrb:(b.map eI)[k]? = some (eI b[k]):=by rw [List.getElem?_map,List.getElem?_eq_getElem hkb'];rfl
    have hl1:(out.map eI).length + 1<=1000000000:=by rw [List.length_map];omega
    have w1:IntKind.i64.wrap ((i:Int) + 1)=((i + 1:Nat):Int):=wrap_i64 (by omega) (by omega);have w2:IntKind.i64.wrap ((k:Int) + 1)=((k + 1:Nat):Int):=wrap_i64 (by omega) (by omega);have hmp:∀ y:Int,(out ++ [y]).map eI=out.map eI ++ [eI y]:=fun y=>by rw [List.map_append];rfl
    have hlp:∀ y:Int,(out ++ [y]).length=out.length + 1:=fun y=>by rw [List.length_append];rfl
    rw [List.drop_eq_getElem_cons hia',List.drop_eq_getElem_cons hkb',mrg_cons] at hinv
    by_cases h1:a[i] < b[k]
    ·rw [if_pos h1,←List.drop_eq_getElem_cons hkb'] at hinv;have q3:=decide_eq_true h1;generalize a[i]=x at *;generalize b[k]=y at *
     repeat' (first|((first|refine wA1 ?_|(refine GA ?_ ?_<;>intro hg)|(refine GV ?_;intros;simp only [nz])|refine wA6 ?_|refine wD1 ?_)<;>(try simp only [q1,q2,q3,w1,w2,nq,Nat.reduceBEq,Nat.reduceAdd,Nat.reduceSub]))|refine wT7 ?_|with_reducible intro Q' hQ'|(refine GC ?_ ?_<;>intro hc)|simp only [laq])
     exact ⟨(i + 1,k,out ++ [x]),by (dsimp only;omega),⟨by (dsimp only;omega),hk,by (dsimp only;rw [List.append_assoc];exact hinv),by (dsimp only;rw [hlp];omega)⟩,by (simp only [hmp,hlp];exact Gh.W)⟩
    ·rw [if_neg h1] at hinv;have q3:=decide_eq_false h1
     by_cases h2:b[k] < a[i]
     ·rw [if_pos h2,←List.drop_eq_getElem_cons hia'] at hinv;have q4:=decide_eq_true h2;generalize a[i]=x at *;generalize b[k]=y at *
      repeat' (first|((first|refine wA1 ?_|(refine GA ?_ ?_<;>intro hg)|(refine GV ?_;intros;simp only [nz])|refine wA6 ?_|refine wD1 ?_)<;>(try simp only [q1,q2,q3,q4,w1,w2,nq,Nat.reduceBEq,Nat.reduceAdd,Nat.reduceSub]))|refine wT7 ?_|with_reducible intro Q' hQ'|(refine GC ?_ ?_<;>intro hc)|simp only [laq])
      exact ⟨(i,k + 1,out ++ [y]),by (dsimp only;omega),⟨hi,by (dsimp only;omega),by (dsimp only;rw [List.append_assoc];exact hinv),by (dsimp only;rw [hlp];omega)⟩,by (simp only [hmp,hlp];exact Gh.W)⟩
     ·rw [if_neg h2,←List.drop_eq_getElem_cons hkb'] at hinv;have q4:=decide_eq_false h2;generalize a[i]=x at *;generalize b[k]=y at *
      repeat' (first|((first|refine wA1 ?_|(refine GA ?_ ?_<;>intro hg)|(refine GV ?_;intros;simp only [nz])|refine wA6 ?_|refine wD1 ?_)<;>(try simp only [q1,q2,q3,q4,w1,w2,nq,Nat.reduceBEq,Nat.reduceAdd,Nat.reduceSub]))|refine wT7 ?_|with_reducible intro Q' hQ'|(refine GC ?_ ?_<;>intro hc)|simp only [laq])
      exact ⟨(i + 1,k,out),by (dsimp only;omega),⟨by (dsimp only;omega),hk,hinv,by (dsimp only;omega)⟩,by exact Gh.W⟩
theorem runion_ac (a b:List Int) (ha:a.length<=1000000) (hb:b.length<=1000000):AF 223 [.sl none 1 (a.map eI),.sl none 1 (b.map eI)] (.tu [.sl none 1 ((unionS a b).1.map eI),I (unionS a b).2]):=
 (runionO_ac a b ha hb).ro (by simp only [AV.ro,roC,roI])
def addR (l:List Int) (n:Int):List Int×Int:=if serS n=false then ([],2) else unionS l [n]
theorem radd_ac (l:List Int) (n:Int) (hl:l.length<=1000000):AF 206 [.sl none 1 (l.map eI),I n] (.tu [.sl none 1 ((addR l n).1.map eI),I (addR l n).2]):=by
 have h1:=serial_ac n;have h2:=runion_ac l [n] hl (by simp);unfold addR
 cases hs:serS n with
 | false=>
  rw [hs] at h1;rw [if_pos rfl];refine AC.E func206 ntmps206 ?_;intros;refine CP.SL ?_
  repeat' (first|((first|refine wA1 ?_|(refine GA ?_ ?_<;>intro hg)|(refine GV ?_;intros;simp only [nz])|refine wA6 ?_)<;>try refine NQ ?_)|refine wT3 ?_|with_reducible intro Q' hQ'|(refine GC ?_ ?_<;>intro hc)|simp only [laq])
  exact RA0
 | true=>
  rw [hs] at h1;rw [if_neg (by simp)];generalize unionS l [n]=R at *;refine AC.E func206 ntmps206 ?_;intros;refine CP.SL ?_
  repeat' (first|((first|refine wA1 ?_|(refine GA ?_ ?_<;>intro hg)|(refine GV ?_;intros;simp only [nz])|refine wA6 ?_)<;>try refine NQ ?_)|refine wT3 ?_|with_reducible intro Q' hQ'|(refine GC ?_ ?_<;>intro hc)|simp only [laq])
  exact RA0
