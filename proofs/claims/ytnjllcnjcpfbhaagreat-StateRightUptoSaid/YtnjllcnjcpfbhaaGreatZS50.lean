/- Parts. -/
import Derived.Test.YtnjllcnjcpfbhaaGreatZS22
import Derived.Test.YtnjllcnjcpfbhaaGreatZS48
namespace Go.Proofs.YtnjllcnjcpfbhaaGreat
set_option linter.unusedVariables false
set_option linter.unusedSimpArgs false
open Go.RowKit Go.Proofs.Tryz
set_option maxRecDepth 100000
set_option maxHeartbeats 8000000
theorem run_all {root:List UInt8} {l:List CallR} (h:runOk root l=true) (h0:0 < l.length):root.length<=100/\∀ c∈l,greatC c=false:=by
 unfold runOk at h;rw [Bool.or_eq_true] at h;rcases h with h|h
 ·rw [of_decide_eq_true h] at h0;simp at h0
 ·simp only [Bool.and_eq_true,decide_eq_true_eq] at h;exact ⟨h.1.1,fun c hc=>by have:=List.all_eq_true.1 h.2 c hc;simpa using this⟩
theorem once_st_ac (root:List UInt8) (hr:root.length<=1000000000) (l:List CallR) (hl:l.length<=1000000000) (hc:∀ c∈l,c.small) (haw:AF 8 [] (B true)):AF 6 [bs none root,.sl none 19 (l.map eCall)] (B true):=by
 have h1:=run_ac root hr l hl hc
 cases hok:runOk root l with
 | false=>
  rw [hok] at h1;refine AC.E func6 ntmps6 ?_;intros
  repeat' (first|((first|refine wA1 ?_|(refine GA ?_ ?_<;>intro hg)|(refine GV ?_;intros;simp only [nz])|refine wA6 ?_|refine wD1 ?_)<;>try refine NQ ?_)|refine wT6 ?_|with_reducible intro Q' hQ'|(refine GC ?_ ?_<;>intro hc)|simp only [laq])
  exact RA0
 | true=>
  rw [hok] at h1;have hlim:=run_lim hok;have hX:runX root l=allS root l l.length:=by unfold runX;rw [if_pos hok]
  have hY:runY root l=outS root l l.length:=by unfold runY;rw [if_pos hok]
  rw [hX,hY] at h1
  by_cases h0:l.length=0
  ·have q1:((l.length:Int) == 0)=true:=by rw [h0];rfl
   generalize allS root l l.length=XS at *;generalize outS root l l.length=YS at *;refine AC.E func6 ntmps6 ?_;intros
   repeat' (first|((first|refine wA1 ?_|(refine GA ?_ ?_<;>intro hg)|(refine GV ?_;intros;simp only [nz])|refine wA6 ?_|refine wD1 ?_)<;>try refine wN0 ?_)|refine wT6 ?_|with_reducible intro Q' hQ'|(refine GC ?_ ?_<;>intro hc)|simp only [laq])
   exact RA0
  ·obtain ⟨m,hm⟩:∃ m,l.length=m + 1:=⟨l.length - 1,by omega⟩;obtain ⟨hr1,hga⟩:=run_all hok (by omega);have hlt:m < l.length:=by omega
   have hlx:=allS_len root l l.length;have hly:=outS_len root l l.length;have hrs:((allS root l l.length).map eSt)[l.length]? = some (eSt (stk root l (m + 1))):=by rw [List.getElem?_map,allS_at (Nat.le_refl _),hm];rfl
   have hrp:((allS root l l.length).map eSt)[m]? = some (eSt (stk root l m)):=by rw [List.getElem?_map,allS_at (by omega)];rfl
   have hro:((outS root l l.length).map eRp)[m]? = some (eRp (rpk root l m)):=by rw [List.getElem?_map,outS_at hlt];rfl
   have hrc:(l.map eCall)[m]? = some (eCall l[m]):=by rw [List.getElem?_map,List.getElem?_eq_getElem hlt];rfl
   have hat:=stk_at (root:=root) (List.getElem?_eq_getElem hlt);have hgc:=hga _ (List.getElem_mem hlt);have hI:=stk_inv root l m;have hI2:=stk_inv root l (m + 1);have hpl:=stk_posle root l (m + 1);rw [hat.2] at hro;have hbl:=bodyS_len (root:=root) hgc;have h2:=(body_ac root (by omega) l[m] hgc).ro (r2:=bs none (bodyS root l[m])) (by simp only [AV.ro,ro_B]);have h3:=apply_ac hI2 (by omega) root (by omega) (entC root (stk root l (m + 1)) l[m]) (by show (bodyS root l[m]).length<=_;omega);have hkeys:=applyS_keys hI root (entC root (stk root l m) l[m]);have h4:=dsameRp_ac (stepS root (stk root l m) l[m]).2 (by show (applyS root (stk root l m) (entC root (stk root l m) l[m])).2.keys.length<=_;omega);have h5:=stsame_ac (stk root l (m + 1)) (maySt_all hI2.may) (by have:=hI2.len;omega) (fun x hx=>by have:=hI2.keys x hx;omega);have hag:=fun (h:(stepS root (stk root l m) l[m]).1.pos≠(stk root l m).pos)=>again hI h (by rw [←hat.1];omega)
   have her:=step_err (root:=root) (p:=stk root l m) (c:=l[m])
   change AC _ _ _ _ (fun v bs'=>v=.tu [.ag (eSt (stepS root (stk root l (m + 1)) l[m]).1),.ag (eRp (stepS root (stk root l (m + 1)) l[m]).2)]/\bs'=[]) at h3
   unfold entC at h3;rw [←hat.1] at hag her;have q1:((l.length:Int) == 0)=false:=by rw [beq_eq_false_iff_ne];omega
   have w1:IntKind.i64.wrap ((l.length:Int) - 1)=(m:Int):=by rw [wrap_i64 (by omega) (by omega)];omega
   have w2:IntKind.i64.wrap ((stk root l (m + 1)).pos + 1)=(stk root l (m + 1)).pos + 1:=wrap_i64 (by omega) (by omega);have l1:l.length < ((allS root l l.length).map eSt).length:=by rw [List.length_map];omega
   have l2:m < ((allS root l l.length).map eSt).length:=by rw [List.length_map];omega
   have l3:m < ((outS root l l.length).map eRp).length:=by rw [List.length_map];omega
   have l4:m < (l.map eCall).length:=by rw [List.length_map];omega
   clear hI hI2 hat hkeys hX hY hga hgc hbl hpl hc;generalize (stepS root (stk root l m) l[m]).2=R2 at *;generalize allS root l l.length=XS at *;generalize outS root l l.length=YS at *;generalize stk root l (m + 1)=s at *;generalize stk root l m=p at *;generalize bodyS root l[m]=bd at *;have b1:(s.pos + 1 == s.pos + 1)=true:=BEq.rfl
   by_cases hpos:s.pos=p.pos
   ·have q2:(p.pos == s.pos)=true:=by rw [hpos];exact BEq.rfl
    have q3:(R2.err == 2)=true:=by rw [her hpos];rfl
    clear h2 h3 h4 h5 hag her;generalize l[m]=c at *;refine AC.E func6 ntmps6 ?_;intros
    repeat' (first|((first|refine wA1 ?_|(refine GA ?_ ?_<;>intro hg)|(refine GV ?_;intros;simp only [nz])|refine wA6 ?_|refine wD1 ?_)<;>try refine wN35 ?_)|refine wT6 ?_|with_reducible intro Q' hQ'|(refine GC ?_ ?_<;>intro hc)|simp only [laq])
    exact RA0
   ·have q2:(p.pos == s.pos)=false:=by rw [beq_eq_false_iff_ne];exact fun h=>hpos h.symm
    rw [hag hpos] at h3;dsimp only at h3;rw [w2] at h3;clear hag her;generalize l[m]=c at *;refine AC.E func6 ntmps6 ?_;intros
    repeat' (first|((first|refine wA1 ?_|(refine GA ?_ ?_<;>intro hg)|(refine GV ?_;intros;simp only [nz])|refine wA6 ?_)<;>(try simp only [q1,q2,w1,w2,nq,Nat.reduceBEq,Nat.reduceAdd,Nat.reduceSub]))|refine wT8 ?_|with_reducible intro Q' hQ'|(refine GC ?_ ?_<;>intro hc)|simp only [laq])
    first|refine cp_drwX fun Q' hQ'=>?_|refine cp_drawX ?_
    repeat' (first|((first|refine wA1 ?_|(refine GA ?_ ?_<;>intro hg)|(refine GV ?_;intros;simp only [nz])|refine wA6 ?_|refine wD1 ?_)<;>(try simp only [q1,q2,w1,w2,nq,Nat.reduceBEq,Nat.reduceAdd,Nat.reduceSub]))|refine wT8 ?_|with_reducible intro Q' hQ'|(refine GC ?_ ?_<;>intro hc)|simp only [laq])
    iterate 2 refine CP.SL ?_
    first|refine cp_drwX fun Q' hQ'=>?_|refine cp_drawX ?_
    iterate 23 (((with_reducible apply DW.k_any);refine DW.ST ?_)<;>(try simp only [w2,nq,Nat.reduceBEq,Nat.reduceAdd,Nat.reduceSub]))
    repeat' (first|((first|refine wA1 ?_|(refine GA ?_ ?_<;>intro hg)|(refine GV ?_;intros;simp only [nz])|refine wA6 ?_|refine wD1 ?_)<;>(try simp only [b1,w1,w2,nq,Nat.reduceBEq,Nat.reduceAdd,Nat.reduceSub]))|refine wT6 ?_|with_reducible intro Q' hQ'|(refine GC ?_ ?_<;>intro hc)|simp only [laq])
    exact RA0
