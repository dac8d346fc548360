/- Parts. -/
import Derived.Test.YtnjllcnjcpfbhaaGreatZS8
namespace Go.Proofs.YtnjllcnjcpfbhaaGreat
set_option linter.unusedVariables false
set_option linter.unusedSimpArgs false
open Go.RowKit Go.Proofs.Tryz
set_option maxRecDepth 100000
set_option maxHeartbeats 8000000
theorem wN5 {G G':Prop} (K:G') (h:G'->G:=by (intro kz;simp only [q0,nq,Nat.reduceBEq,Nat.reduceAdd,Nat.reduceSub];exact kz)):G:=h K
theorem wN21 {G G':Prop} (K:G') (h:G'->G:=by (intro kz;simp only [q1,q2,q3,Bool.not_true,nq,Nat.reduceBEq,Nat.reduceAdd,Nat.reduceSub];exact kz)):G:=h K
theorem wA12 {G G':Prop} (K:G') (h:G'->G:=by (intro kz;(with_reducible apply AP.k_any);first|exact AP.EQ kz|exact AP.SS kz)):G:=h K
theorem req_i (l:List Int) (hl:l.length<=1000000):AF 57 [.sl none 1 (l.map eI),.sl none 1 (l.map eI)] (B true):=by
 have q0:((l.length:Int) != (l.length:Int))=false:=by simp
 refine AC.E func57 ntmps57 ?_;intro X hρ hmks
 repeat' (first|((first|refine wA1 ?_|(refine GA ?_ ?_<;>intro hg)|(refine GV ?_;intros;simp only [nz])|refine wA6 ?_|refine wD1 ?_)<;>try refine wN5 ?_)|refine wT6 ?_|with_reducible intro Q' hQ'|(refine GC ?_ ?_<;>intro hc)|simp only [laq])
 refine cp_loopS [4,5,13,14,15,16,17,18,19,20,21,22,23,24,25] (fun k:Nat=>l.length - k) (fun k=>k<=l.length) (fun k=>[(13,I k)]) (fun _=>[]) 0 (Nat.zero_le _) (by exact Gh.W) ?_;intro k hk;refine ST0 ?_
 by_cases hlt:k < l.length
 ·have q1:decide ((k:Int) < (l.length:Int))=true:=by simp;omega
  have q2:IntKind.i64.wrap ((k:Int) + 1)=((k + 1:Nat):Int):=wrap_i64 (by omega) (by omega);have hr1:(l.map eI)[k]? = some (eI l[k]):=by rw [List.getElem?_map,List.getElem?_eq_getElem hlt];rfl
  generalize l[k]=x at *;have q3:(x != x)=false:=by simp
  repeat' (first|((first|refine wA1 ?_|(refine GA ?_ ?_<;>intro hg)|(refine GV ?_;intros;simp only [nz])|refine wA12 ?_|refine wA6 ?_|refine wD4 ?_|((with_reducible apply DW.k_any);refine DW.known rfl ?_;(with_reducible first|apply DW.sx 2);(iterate 2 (focus (simp only [ft,nm,Nat.reduceAdd,Nat.reduceBEq,List.getElem?_cons_zero,List.getElem?_cons_succ];exact rfl)));(focus (intro X V;simp only [ft,nm,Nat.reduceAdd,Nat.reduceBEq];(try (refine AP.Y ?_;dsimp only));(first|refine AP.EQ ?_|refine AP.SS ?_|fail);(try refine NX ?_);refine AP.nil ?_;(first|refine ⟨trivial,rfl,?_⟩|refine ⟨rfl,rfl,?_⟩);(repeat' (first|exact Mg.nil|apply Mg.keep rfl|apply Mg.take rfl));done));(focus (refine Exists.intro (fun _=>0) ?_;apply Exists.intro;(repeat' (first|exact Mg.nil|apply Mg.keep rfl|apply Mg.take rfl));done));(iterate 2 (focus (exact rfl)))))<;>try refine wN21 ?_)|refine wT6 ?_|with_reducible intro Q' hQ'|(refine GC ?_ ?_<;>intro hc)|simp only [laq])
  exact ⟨k + 1,by omega,by omega,by exact Gh.W⟩
 ·obtain rfl:k=l.length:=by omega
  have q1:decide ((l.length:Int) < (l.length:Int))=false:=by simp
  repeat' (first|((first|refine wA1 ?_|(refine GA ?_ ?_<;>intro hg)|(refine GV ?_;intros;simp only [nz])|refine wA6 ?_|refine wD1 ?_)<;>try refine wN0 ?_)|refine wT6 ?_|with_reducible intro Q' hQ'|(refine GC ?_ ?_<;>intro hc)|simp only [laq])
  exact RA0
theorem req_p (l:List Pr) (hl:l.length<=1000000):AF 32 [.sl none 2 (l.map ePr),.sl none 2 (l.map ePr)] (B true):=by
 have q0:((l.length:Int) != (l.length:Int))=false:=by simp
 refine AC.E func32 ntmps32 ?_;intro X hρ hmks
 repeat' (first|((first|refine wA1 ?_|(refine GA ?_ ?_<;>intro hg)|(refine GV ?_;intros;simp only [nz])|refine wA6 ?_|refine wD1 ?_)<;>try refine wN5 ?_)|refine wT6 ?_|with_reducible intro Q' hQ'|(refine GC ?_ ?_<;>intro hc)|simp only [laq])
 refine cp_loopS [4,5,13,14,15,16,17,18,19,20,21,22,23,24,25] (fun k:Nat=>l.length - k) (fun k=>k<=l.length) (fun k=>[(13,I k)]) (fun _=>[]) 0 (Nat.zero_le _) (by exact Gh.W) ?_;intro k hk;refine ST0 ?_
 by_cases hlt:k < l.length
 ·have q1:decide ((k:Int) < (l.length:Int))=true:=by simp;omega
  have q2:IntKind.i64.wrap ((k:Int) + 1)=((k + 1:Nat):Int):=wrap_i64 (by omega) (by omega);have hr1:(l.map ePr)[k]? = some (ePr l[k]):=by rw [List.getElem?_map,List.getElem?_eq_getElem hlt];rfl
  generalize l[k]=x at *;have q3:eqVs [str x.key,str x.val] [str x.key,str x.val]=true:=by simp [eqVs,eqV1]
  repeat' (first|((first|refine wA1 ?_|(refine GA ?_ ?_<;>intro hg)|(refine GV ?_;intros;simp only [nz])|refine wA12 ?_|refine wA6 ?_|refine wD4 ?_|((with_reducible apply DW.k_any);refine DW.known rfl ?_;(with_reducible first|apply DW.sx 2);(iterate 2 (focus (simp only [ft,nm,Nat.reduceAdd,Nat.reduceBEq,List.getElem?_cons_zero,List.getElem?_cons_succ];exact rfl)));(focus (intro X V;simp only [ft,nm,Nat.reduceAdd,Nat.reduceBEq];(try (refine AP.Y ?_;dsimp only));(first|refine AP.EQ ?_|refine AP.SS ?_|fail);(try refine NX ?_);refine AP.nil ?_;(first|refine ⟨trivial,rfl,?_⟩|refine ⟨rfl,rfl,?_⟩);(repeat' (first|exact Mg.nil|apply Mg.keep rfl|apply Mg.take rfl));done));(focus (refine Exists.intro (fun _=>0) ?_;apply Exists.intro;(repeat' (first|exact Mg.nil|apply Mg.keep rfl|apply Mg.take rfl));done));(iterate 2 (focus (exact rfl)))))<;>try refine wN21 ?_)|refine wT6 ?_|with_reducible intro Q' hQ'|(refine GC ?_ ?_<;>intro hc)|simp only [laq])
  exact ⟨k + 1,by omega,by omega,by exact Gh.W⟩
 ·obtain rfl:k=l.length:=by omega
  have q1:decide ((l.length:Int) < (l.length:Int))=false:=by simp
  repeat' (first|((first|refine wA1 ?_|(refine GA ?_ ?_<;>intro hg)|(refine GV ?_;intros;simp only [nz])|refine wA6 ?_|refine wD1 ?_)<;>try refine wN0 ?_)|refine wT6 ?_|with_reducible intro Q' hQ'|(refine GC ?_ ?_<;>intro hc)|simp only [laq])
  exact RA0
theorem req_s (l:List Shr) (hl:l.length<=1000000):AF 58 [.sl none 3 (l.map eShr),.sl none 3 (l.map eShr)] (B true):=by
 have q0:((l.length:Int) != (l.length:Int))=false:=by simp
 refine AC.E func58 ntmps58 ?_;intro X hρ hmks
 repeat' (first|((first|refine wA1 ?_|(refine GA ?_ ?_<;>intro hg)|(refine GV ?_;intros;simp only [nz])|refine wA6 ?_|refine wD1 ?_)<;>try refine wN5 ?_)|refine wT6 ?_|with_reducible intro Q' hQ'|(refine GC ?_ ?_<;>intro hc)|simp only [laq])
 refine cp_loopS [4,5,13,14,15,16,17,18,19,20,21,22,23,24,25] (fun k:Nat=>l.length - k) (fun k=>k<=l.length) (fun k=>[(13,I k)]) (fun _=>[]) 0 (Nat.zero_le _) (by exact Gh.W) ?_;intro k hk;refine ST0 ?_
 by_cases hlt:k < l.length
 ·have q1:decide ((k:Int) < (l.length:Int))=true:=by simp;omega
  have q2:IntKind.i64.wrap ((k:Int) + 1)=((k + 1:Nat):Int):=wrap_i64 (by omega) (by omega);have hr1:(l.map eShr)[k]? = some (eShr l[k]):=by rw [List.getElem?_map,List.getElem?_eq_getElem hlt];rfl
  generalize l[k]=x at *;have q3:eqVs [.int .i64 x.ten,.int .i64 x.keys,.int .i64 x.spc] [.int .i64 x.ten,.int .i64 x.keys,.int .i64 x.spc]=true:=by simp [eqVs,eqV1]
  repeat' (first|((first|refine wA1 ?_|(refine GA ?_ ?_<;>intro hg)|(refine GV ?_;intros;simp only [nz])|refine wA12 ?_|refine wA6 ?_|refine wD4 ?_|((with_reducible apply DW.k_any);refine DW.known rfl ?_;(with_reducible first|apply DW.sx 2);(iterate 2 (focus (simp only [ft,nm,Nat.reduceAdd,Nat.reduceBEq,List.getElem?_cons_zero,List.getElem?_cons_succ];exact rfl)));(focus (intro X V;simp only [ft,nm,Nat.reduceAdd,Nat.reduceBEq];(try (refine AP.Y ?_;dsimp only));(first|refine AP.EQ ?_|refine AP.SS ?_|fail);(try refine NX ?_);refine AP.nil ?_;(first|refine ⟨trivial,rfl,?_⟩|refine ⟨rfl,rfl,?_⟩);(repeat' (first|exact Mg.nil|apply Mg.keep rfl|apply Mg.take rfl));done));(focus (refine Exists.intro (fun _=>0) ?_;apply Exists.intro;(repeat' (first|exact Mg.nil|apply Mg.keep rfl|apply Mg.take rfl));done));(iterate 2 (focus (exact rfl)))))<;>try refine wN21 ?_)|refine wT6 ?_|with_reducible intro Q' hQ'|(refine GC ?_ ?_<;>intro hc)|simp only [laq])
  exact ⟨k + 1,by omega,by omega,by exact Gh.W⟩
 ·obtain rfl:k=l.length:=by omega
  have q1:decide ((l.length:Int) < (l.length:Int))=false:=by simp
  repeat' (first|((first|refine wA1 ?_|(refine GA ?_ ?_<;>intro hg)|(refine GV ?_;intros;simp only [nz])|refine wA6 ?_|refine wD1 ?_)<;>try refine wN0 ?_)|refine wT6 ?_|with_reducible intro Q' hQ'|(refine GC ?_ ?_<;>intro hc)|simp only [laq])
  exact RA0
theorem req_t (l:List (List UInt8)) (hl:l.length<=1000000):AF 179 [.sl none 1 (l.map eT),.sl none 1 (l.map eT)] (B true):=by
 have q0:((l.length:Int) != (l.length:Int))=false:=by simp
 refine AC.E func179 ntmps179 ?_;intro X hρ hmks
 repeat' (first|((first|refine wA1 ?_|(refine GA ?_ ?_<;>intro hg)|(refine GV ?_;intros;simp only [nz])|refine wA6 ?_|refine wD1 ?_)<;>try refine wN5 ?_)|refine wT6 ?_|with_reducible intro Q' hQ'|(refine GC ?_ ?_<;>intro hc)|simp only [laq])
 refine cp_loopS [4,5,13,14,15,16,17,18,19,20,21,22,23,24,25] (fun k:Nat=>l.length - k) (fun k=>k<=l.length) (fun k=>[(13,I k)]) (fun _=>[]) 0 (Nat.zero_le _) (by exact Gh.W) ?_;intro k hk;refine ST0 ?_
 by_cases hlt:k < l.length
 ·have q1:decide ((k:Int) < (l.length:Int))=true:=by simp;omega
  have q2:IntKind.i64.wrap ((k:Int) + 1)=((k + 1:Nat):Int):=wrap_i64 (by omega) (by omega);have hr1:(l.map eT)[k]? = some (eT l[k]):=by rw [List.getElem?_map,List.getElem?_eq_getElem hlt];rfl
  generalize l[k]=x at *;have q3:(x != x)=false:=by simp
  repeat' (first|((first|refine wA1 ?_|(refine GA ?_ ?_<;>intro hg)|(refine GV ?_;intros;simp only [nz])|refine wA12 ?_|refine wA6 ?_|refine wD4 ?_|((with_reducible apply DW.k_any);refine DW.known rfl ?_;(with_reducible first|apply DW.sx 2);(iterate 2 (focus (simp only [ft,nm,Nat.reduceAdd,Nat.reduceBEq,List.getElem?_cons_zero,List.getElem?_cons_succ];exact rfl)));(focus (intro X V;simp only [ft,nm,Nat.reduceAdd,Nat.reduceBEq];(try (refine AP.Y ?_;dsimp only));(first|refine AP.EQ ?_|refine AP.SS ?_|fail);(try refine NX ?_);refine AP.nil ?_;(first|refine ⟨trivial,rfl,?_⟩|refine ⟨rfl,rfl,?_⟩);(repeat' (first|exact Mg.nil|apply Mg.keep rfl|apply Mg.take rfl));done));(focus (refine Exists.intro (fun _=>0) ?_;apply Exists.intro;(repeat' (first|exact Mg.nil|apply Mg.keep rfl|apply Mg.take rfl));done));(iterate 2 (focus (exact rfl)))))<;>try refine wN21 ?_)|refine wT6 ?_|with_reducible intro Q' hQ'|(refine GC ?_ ?_<;>intro hc)|simp only [laq])
  exact ⟨k + 1,by omega,by omega,by exact Gh.W⟩
 ·obtain rfl:k=l.length:=by omega
  have q1:decide ((l.length:Int) < (l.length:Int))=false:=by simp
  repeat' (first|((first|refine wA1 ?_|(refine GA ?_ ?_<;>intro hg)|(refine GV ?_;intros;simp only [nz])|refine wA6 ?_|refine wD1 ?_)<;>try refine wN0 ?_)|refine wT6 ?_|with_reducible intro Q' hQ'|(refine GC ?_ ?_<;>intro hc)|simp only [laq])
  exact RA0
theorem req_l (l:List Lnk) (hl:l.length<=1000000):AF 59 [.sl none 71 (l.map eLk),.sl none 71 (l.map eLk)] (B true):=by
 have q0:((l.length:Int) != (l.length:Int))=false:=by simp
 refine AC.E func59 ntmps59 ?_;intro X hρ hmks
 repeat' (first|((first|refine wA1 ?_|(refine GA ?_ ?_<;>intro hg)|(refine GV ?_;intros;simp only [nz])|refine wA6 ?_|refine wD1 ?_)<;>try refine wN5 ?_)|refine wT6 ?_|with_reducible intro Q' hQ'|(refine GC ?_ ?_<;>intro hc)|simp only [laq])
 refine cp_loopS [4,5,13,14,15,16,17,18,19,20,21,22,23,24,25] (fun k:Nat=>l.length - k) (fun k=>k<=l.length) (fun k=>[(13,I k)]) (fun _=>[]) 0 (Nat.zero_le _) (by exact Gh.W) ?_;intro k hk;refine ST0 ?_
 by_cases hlt:k < l.length
 ·have q1:decide ((k:Int) < (l.length:Int))=true:=by simp;omega
  have q2:IntKind.i64.wrap ((k:Int) + 1)=((k + 1:Nat):Int):=wrap_i64 (by omega) (by omega);have hr1:(l.map eLk)[k]? = some (eLk l[k]):=by rw [List.getElem?_map,List.getElem?_eq_getElem hlt];rfl
  generalize l[k]=x at *;have q3:∀ y:List UInt8,∀ i:Nat,True:=fun _ _=>trivial
  repeat' (first|((first|refine wA1 ?_|(refine GA ?_ ?_<;>intro hg)|(refine GV ?_;intros;simp only [nz])|refine wA12 ?_|refine wA6 ?_|refine wD4 ?_|((with_reducible apply DW.k_any);refine DW.known rfl ?_;(with_reducible first|apply DW.sx 2);(iterate 2 (focus (simp only [ft,nm,Nat.reduceAdd,Nat.reduceBEq,List.getElem?_cons_zero,List.getElem?_cons_succ];exact rfl)));(focus (intro X V;simp only [ft,nm,Nat.reduceAdd,Nat.reduceBEq];(try (refine AP.Y ?_;dsimp only));(first|refine AP.EQ ?_|refine AP.SS ?_|fail);(try refine NX ?_);refine AP.nil ?_;(first|refine ⟨trivial,rfl,?_⟩|refine ⟨rfl,rfl,?_⟩);(repeat' (first|exact Mg.nil|apply Mg.keep rfl|apply Mg.take rfl));done));(focus (refine Exists.intro (fun _=>0) ?_;apply Exists.intro;(repeat' (first|exact Mg.nil|apply Mg.keep rfl|apply Mg.take rfl));done));(iterate 2 (focus (exact rfl)))))<;>(try simp only [q1,q2,q3,eqVs,eqV1,BEq.rfl,Bool.and_self,Bool.not_true,nq,Nat.reduceBEq,Nat.reduceAdd,Nat.reduceSub]))|refine wT6 ?_|with_reducible intro Q' hQ'|(refine GC ?_ ?_<;>intro hc)|simp only [laq])
  exact ⟨k + 1,by omega,by omega,by exact Gh.W⟩
 ·obtain rfl:k=l.length:=by omega
  have q1:decide ((l.length:Int) < (l.length:Int))=false:=by simp
  repeat' (first|((first|refine wA1 ?_|(refine GA ?_ ?_<;>intro hg)|(refine GV ?_;intros;simp only [nz])|refine wA6 ?_|refine wD1 ?_)<;>try refine wN0 ?_)|refine wT6 ?_|with_reducible intro Q' hQ'|(refine GC ?_ ?_<;>intro hc)|simp only [laq])
  exact RA0
