/- Parts. -/
import Derived.Test.YtnjllcnjcpfbhaaGreatZS32
import Derived.Test.YtnjllcnjcpfbhaaGreatZS33
namespace Go.Proofs.YtnjllcnjcpfbhaaGreat
set_option linter.unusedVariables false
set_option linter.unusedSimpArgs false
open Go.RowKit Go.Proofs.Tryz
set_option maxRecDepth 100000
set_option maxHeartbeats 8000000
theorem wN26 {G G':Prop} (K:G') (h:G'->G:=by (intro kz;simp only [q0,q5,nq,Nat.reduceBEq,Nat.reduceAdd,Nat.reduceSub];exact kz)):G:=h K
theorem wN27 {G G':Prop} (K:G') (h:G'->G:=by (intro kz;simp only [q9,nq,Nat.reduceBEq,Nat.reduceAdd,Nat.reduceSub];exact kz)):G:=h K
theorem do_op_ac {root body key:List UInt8} {s:St} {st:Int} {q:Req} {T:Tok} {n:Nat} {x:Ten} {nd:UInt8} {f:Nat} {r:Rep} {s2:St}
 (h1:AF 51 [.ag (eSt s)] (.ag (eSt s)))
 (h2:AF 9 [.ag (eSt s)] (B true))
 (h4:AF 12 [bs none body] (.tu [.ag (eRq q),I 0]))
 (h5:AF 14 [bs none q.tok] (.tu [.ag (eTok T),I 0]))
 (h6:AF 17 [bs none root,I T.ten] (bs none key))
 (h7:AF 16 [bs none key,.ag (eTok T)] (I 0))
 (h8:AF 30 [.ag (eSt s),I T.ten] (I (n:Int)))
 (hx:s.tens[n]? = some x)
 (h9:AF 109 [.sl none 1 (x.rev.map eI),grA T.line] (B false))
 (h10:AF 110 [U q.op] (U nd))
 (h11:AF 111 [bs none key,.ag (eTok T),I st,U nd] (I 0))
 (hnd:(nd.toNat:Int)≠0) (hnt:(nd.toNat:Int)≠8\/T.ten=0)
 (g1:True->AF 51 [.ag (eSt s)] (.ag (eStO s)))
 (hop:q.op.toNat<=10)
 (hidx:(opsC.drop ((q.op.toNat:Int).toNat * 2)).take 2=[U nd,.fn f []])
 (hf:AC prog f [.ag (eAs q root st n),.bp 0 0 0] [stB s] (fun v bs'=>v=.ag (eRp r)/\bs'=[stB s2])) :
 AF 53 [bs none root,.ag (eSt s),I st,bs none body] (.tu [.ag (eSt (if r.err=0 then s2 else s)),.ag (eRp (if r.err=0 then r else failR r.err))]):=by
 have hnl:=(List.getElem?_eq_some_iff.1 hx).1;have hr:(s.tens.map eTe)[n]? = some (eTe x):=by rw [List.getElem?_map,hx];rfl
 have q0:((0:Int) != 0)=false:=rfl;have q5:decide ((n:Int) < 0)=false:=by simp
 have h0:=ops_ac;have hop2:0<=(q.op.toNat:Int)/\(q.op.toNat:Int) < ((11:Nat):Int):=⟨Int.natCast_nonneg _,by omega⟩;have q6:((nd.toNat:Int) == 0)=false:=by simpa using hnd
 by_cases h8':(nd.toNat:Int)=8
 ·have q7:((nd.toNat:Int) == 8)=true:=by simpa using h8'
  have ht0:T.ten=0:=by
   rcases hnt with h|h
   ·exact absurd h8' h
   ·exact h
  have q8:(T.ten != 0)=false:=by simpa using ht0
  clear hnt hnd h8' ht0;refine AC.E func53 ntmps53 ?_;intro X hρ hmks;iterate 3 refine CP.SL ?_
  repeat' (first|((first|refine wA1 ?_|(refine GA ?_ ?_<;>intro hg)|(refine GV ?_;intros;simp only [nz])|refine wA6 ?_)<;>try refine wN26 ?_)|refine wT8 ?_|with_reducible intro Q' hQ'|(refine GC ?_ ?_<;>intro hc)|simp only [laq])
  first|refine cp_drwX fun Q' hQ'=>?_|refine cp_drawX ?_
  iterate 9 refine DS0 ?_
  clear h1;have h1:=g1 trivial
  repeat' (first|((first|refine wA1 ?_|(refine GA ?_ ?_<;>intro hg)|(refine GV ?_;intros;simp only [nz])|refine wA6 ?_)<;>(try simp only [q0,q6,q7,q8,nq,Nat.reduceBEq,Nat.reduceAdd,Nat.reduceSub]))|refine wT8 ?_|with_reducible intro Q' hQ'|(refine GC ?_ ?_<;>intro hc)|simp only [laq])
  iterate 2 refine CP.SL ?_
  first|refine cp_drwX fun Q' hQ'=>?_|refine cp_drawX ?_
  iterate 3 refine DS0 ?_
  refine DW.IA ?_ (h:=by (intro X V;simp only [ft,nm,Nat.reduceAdd,Nat.reduceBEq];(try (refine AP.Y ?_;dsimp only));refine AP.IA (hl:=hidx) (hp:=hop2) ?_;(try refine NX ?_);refine AP.nil ?_;first|exact ⟨trivial,rfl⟩|exact ⟨rfl,rfl⟩));refine NQ ?_;iterate 9 refine DS0 ?_
  by_cases he:r.err=0
  ·rw [if_pos he,if_pos he];have q9:(r.err != 0)=false:=by simpa using he
   repeat' (first|((first|refine wA1 ?_|(refine GA ?_ ?_<;>intro hg)|(refine GV ?_;intros;simp only [nz])|refine wA6 ?_)<;>try refine wN27 ?_)|refine wT8 ?_|with_reducible intro Q' hQ'|(refine GC ?_ ?_<;>intro hc)|simp only [laq])
   refine CP.gh (gh_fzS (b:=5) rfl) ?_;simp only [roTe,nq,Nat.reduceBEq,Nat.reduceAdd,Nat.reduceSub]
   repeat' (first|((first|refine wA1 ?_|(refine GA ?_ ?_<;>intro hg)|(refine GV ?_;intros;simp only [nz])|refine wA6 ?_|refine wD1 ?_)<;>try refine NQ ?_)|refine wT6 ?_|with_reducible intro Q' hQ'|(refine GC ?_ ?_<;>intro hc)|simp only [laq])
   exact RA0
  ·rw [if_neg he,if_neg he];have q9:(r.err != 0)=true:=by simpa using he
   have h3:=fails_ac r.err
   repeat' (first|((first|refine wA1 ?_|(refine GA ?_ ?_<;>intro hg)|(refine GV ?_;intros;simp only [nz])|refine wA6 ?_|refine wD1 ?_)<;>try refine wN27 ?_)|refine wT6 ?_|with_reducible intro Q' hQ'|(refine GC ?_ ?_<;>intro hc)|simp only [laq])
   exact RA0
 ·have q7:((nd.toNat:Int) == 8)=false:=by simpa using h8'
  clear hnt hnd h8';refine AC.E func53 ntmps53 ?_;intro X hρ hmks;iterate 3 refine CP.SL ?_
  repeat' (first|((first|refine wA1 ?_|(refine GA ?_ ?_<;>intro hg)|(refine GV ?_;intros;simp only [nz])|refine wA6 ?_)<;>try refine wN26 ?_)|refine wT8 ?_|with_reducible intro Q' hQ'|(refine GC ?_ ?_<;>intro hc)|simp only [laq])
  first|refine cp_drwX fun Q' hQ'=>?_|refine cp_drawX ?_
  iterate 9 refine DS0 ?_
  clear h1;have h1:=g1 trivial
  repeat' (first|((first|refine wA1 ?_|(refine GA ?_ ?_<;>intro hg)|(refine GV ?_;intros;simp only [nz])|refine wA6 ?_)<;>(try simp only [q0,q6,q7,nq,Nat.reduceBEq,Nat.reduceAdd,Nat.reduceSub]))|refine wT8 ?_|with_reducible intro Q' hQ'|(refine GC ?_ ?_<;>intro hc)|simp only [laq])
  iterate 2 refine CP.SL ?_
  first|refine cp_drwX fun Q' hQ'=>?_|refine cp_drawX ?_
  iterate 3 refine DS0 ?_
  refine DW.IA ?_ (h:=by (intro X V;simp only [ft,nm,Nat.reduceAdd,Nat.reduceBEq];(try (refine AP.Y ?_;dsimp only));refine AP.IA (hl:=hidx) (hp:=hop2) ?_;(try refine NX ?_);refine AP.nil ?_;first|exact ⟨trivial,rfl⟩|exact ⟨rfl,rfl⟩));refine NQ ?_;iterate 9 refine DS0 ?_
  by_cases he:r.err=0
  ·rw [if_pos he,if_pos he];have q9:(r.err != 0)=false:=by simpa using he
   repeat' (first|((first|refine wA1 ?_|(refine GA ?_ ?_<;>intro hg)|(refine GV ?_;intros;simp only [nz])|refine wA6 ?_)<;>try refine wN27 ?_)|refine wT8 ?_|with_reducible intro Q' hQ'|(refine GC ?_ ?_<;>intro hc)|simp only [laq])
   refine CP.gh (gh_fzS (b:=5) rfl) ?_;simp only [roTe,nq,Nat.reduceBEq,Nat.reduceAdd,Nat.reduceSub]
   repeat' (first|((first|refine wA1 ?_|(refine GA ?_ ?_<;>intro hg)|(refine GV ?_;intros;simp only [nz])|refine wA6 ?_|refine wD1 ?_)<;>try refine NQ ?_)|refine wT6 ?_|with_reducible intro Q' hQ'|(refine GC ?_ ?_<;>intro hc)|simp only [laq])
   exact RA0
  ·rw [if_neg he,if_neg he];have q9:(r.err != 0)=true:=by simpa using he
   have h3:=fails_ac r.err
   repeat' (first|((first|refine wA1 ?_|(refine GA ?_ ?_<;>intro hg)|(refine GV ?_;intros;simp only [nz])|refine wA6 ?_|refine wD1 ?_)<;>try refine wN27 ?_)|refine wT6 ?_|with_reducible intro Q' hQ'|(refine GC ?_ ?_<;>intro hc)|simp only [laq])
   exact RA0
