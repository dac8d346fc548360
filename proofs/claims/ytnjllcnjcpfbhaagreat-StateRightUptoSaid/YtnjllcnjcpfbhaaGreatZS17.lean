/- Parts. -/
import Derived.Test.YtnjllcnjcpfbhaaGreatZS16
namespace Go.Proofs.YtnjllcnjcpfbhaaGreat
set_option linter.unusedVariables false
set_option linter.unusedSimpArgs false
open Go.RowKit Go.Proofs.Tryz
set_option maxRecDepth 100000
set_option maxHeartbeats 8000000
theorem wN12 {G G':Prop} (K:G') (h:G'->G:=by (intro kz;simp only [e9,nq,Nat.reduceBEq,Nat.reduceAdd,Nat.reduceSub];exact kz)):G:=h K
abbrev tPr:TypeId:=93
theorem pgrow_ac (n:Nat) (hn:n<=1000000):AF 242 [.sc (.slice none 0 0),I n] (.sl (some tPr) 2 []):=by
 have w0:IntKind.i64.wrap (0 - 0)=0:=rfl;have w1:IntKind.i64.wrap ((n:Int) - 0)=n:=wrap_i64 (by omega) (by omega);have d0:decide ((n:Int) < 0)=false:=by simp
 have c0:((0:Nat):Int)=0:=rfl
 by_cases h0:n=0
 ·subst h0;have d1:decide ((0:Int) < ((0:Nat):Int))=false:=by decide
  refine AC.E func242 ntmps242 ?_;intros
  repeat' (first|((first|refine wA1 ?_|(refine GA ?_ ?_<;>intro hg)|(refine GV ?_;intros;simp only [nz])|((with_reducible apply AP.k_any);refine AP.pure rfl (pq_cap0 rfl rfl rfl rfl) ?_)|refine wA6 ?_)<;>(try simp only [d0,w0,w1,d1,nq,Nat.reduceBEq,Nat.reduceAdd,Nat.reduceSub]))|refine wT3 ?_|with_reducible intro Q' hQ'|(refine GC ?_ ?_<;>intro hc)|simp only [laq])
  exact RA0
 ·have d1:decide ((0:Int) < (n:Int))=true:=by simp;omega
  refine AC.E func242 ntmps242 ?_;intros
  repeat' (first|((first|refine wA1 ?_|(refine GA ?_ ?_<;>intro hg)|(refine GV ?_;intros;simp only [nz])|((with_reducible apply AP.k_any);refine AP.pure rfl (pq_cap0 rfl rfl rfl rfl) ?_)|((with_reducible apply AP.k_any);refine AP.pure rfl (pq_slice0 rfl rfl rfl rfl rfl rfl) ?_)|((with_reducible apply AP.k_any);refine ap_appZ rfl rfl rfl rfl rfl rfl rfl rfl (by kernel_rfl) rfl rfl rfl (by omega) (by omega) ?_)|((with_reducible apply AP.k_any);refine ap_trunc rfl rfl rfl rfl rfl rfl rfl (h:=0) (Bd.int rfl) (Nat.zero_le _) ?_)|((with_reducible apply AP.k_any);refine ap_trunc rfl rfl rfl rfl rfl rfl rfl (h:=0) (Bd.lit rfl rfl) (Nat.zero_le _) ?_)|refine wA6 ?_)<;>(try simp only [d0,w0,w1,d1,nq,Nat.reduceBEq,Nat.reduceAdd,Nat.reduceSub]))|refine wT3 ?_|with_reducible intro Q' hQ'|(refine GC ?_ ?_<;>intro hc)|simp only [laq])
  exact RA0
theorem pconcat_ac (a b c:List Pr) (ha:a.length<=100000) (hb:b.length<=100000) (hc:c.length<=100000):AF 229 [.sl (some 37) 1 [[prsA a],[prsA b],[prsA c]]] (.sl (some tPr) 2 ((a ++ b ++ c).map ePr)):=by
 refine AC.own ?_;simp only [roC,AV.ro,roE,roP];have h1:=pgrow_ac (a.length + b.length + c.length) (by omega);have q1:IntKind.i64.wrap (0 + 1)=1:=rfl;have q2:IntKind.i64.wrap (1 + 1)=2:=rfl;have q2':IntKind.i64.wrap (2 + 1)=3:=rfl;have q3:IntKind.i64.wrap (0 + (a.length:Int))=(a.length:Int):=by rw [Int.zero_add];exact wrap_i64 (by omega) (by omega)
 have q4:IntKind.i64.wrap ((a.length:Int) + (b.length:Int))=((a.length + b.length:Nat):Int):=by rw [Int.natCast_add];exact wrap_i64 (by omega) (by omega)
 have q4':IntKind.i64.wrap (((a.length + b.length:Nat):Int) + (c.length:Int))=((a.length + b.length + c.length:Nat):Int):=by rw [Int.natCast_add];exact wrap_i64 (by omega) (by omega)
 have q5:decide ((a.length:Int) < 0)=false:=by simp
 have q6:decide (((a.length + b.length:Nat):Int) < 0)=false:=by simp;omega
 have q7:decide (((a.length + b.length + c.length:Nat):Int) < 0)=false:=by simp;omega
 have e0:decide ((0:Int) < 3)=true:=rfl;have e1:decide ((1:Int) < 3)=true:=rfl;have e2:decide ((2:Int) < 3)=true:=rfl;have e3:decide ((3:Int) < 3)=false:=rfl;have hl1:([]:List (List AV)).length + (a.map ePr).length<=1000000000:=by simp;omega
 have hl2:(a.map ePr).length + (b.map ePr).length<=1000000000:=by simp;omega
 have hl3:(a.map ePr ++ b.map ePr).length + (c.map ePr).length<=1000000000:=by simp;omega
 have sm:=And.intro q1 (And.intro q2 (And.intro q2' (And.intro q3 (And.intro q4 (And.intro q4' (And.intro q5 (And.intro q6 (And.intro q7 (And.intro e0 (And.intro e1 (And.intro e2 (And.intro e3 (@List.nil_append (List AV))))))))))))));have hm:(a ++ b ++ c).map ePr=a.map ePr ++ b.map ePr ++ c.map ePr:=by rw [List.map_append,List.map_append]
 refine AC.E func229 ntmps229 ?_;intros;refine CP.SL ?_;refine W1 ?_;refine cp_rounds 4 ?_;refine W1 ?_;refine cp_rounds 4 ?_;refine W1 ?_;(exact RetQ.A [] (by exact ⟨congrArg (AV.sl (some tPr) 2) hm.symm,rfl⟩))
def withP (s:Spc) (i j:Nat) (l:List Pr):Spc×Int:=if maySp ⟨s.keys,s.bytes,s.prs.take i ++ l ++ s.prs.drop j⟩=true then (⟨s.keys,s.bytes,s.prs.take i ++ l ++ s.prs.drop j⟩,0) else (⟨0,0,[]⟩,120)
theorem wT8 {G G':Prop} (K:G') (h:G'->G:=by (intro kz;first|exact CP.TN kz|((with_reducible apply CP.k_reg);exact cp_regG kz))):G:=h K
theorem swith_ac (s:Spc) (i j:Nat) (l:List Pr) (hi:i<=s.prs.length) (hj:j<=s.prs.length) (hs:s.small) (hl:l.length<=1000) (hls:∀ p∈l,p.key.length<=1000000/\p.val.length<=1000000) (hl2:s.prs.length<=100000) :
 AF 217 [.ag (eSp s),I i,I j,prsA l] (.tu [.ag (eSp (withP s i j l).1),I (withP s i j l).2]):=by
 have h1:=pconcat_ac (s.prs.take i) l (s.prs.drop j) (by rw [List.length_take];omega) (by omega) (by rw [List.length_drop];omega)
 have h2:=smay_ac ⟨s.keys,s.bytes,s.prs.take i ++ l ++ s.prs.drop j⟩ (by simp;omega) (fun p hp=>by
  rcases List.mem_append.1 hp with hp|hp
  ·rcases List.mem_append.1 hp with hp|hp
   ·exact hs.s p (List.mem_of_mem_take hp)
   ·exact hls p hp
  ·exact hs.s p (List.mem_of_mem_drop hp))
 unfold withP;have e9:(s.prs.drop j).take (s.prs.length - j)=s.prs.drop j:=List.take_of_length_le (by simp);have hi':i<=(s.prs.map ePr).length:=by rw [List.length_map];exact hi
 generalize s.prs.take i ++ l ++ s.prs.drop j=M at *
 cases hM:maySp ⟨s.keys,s.bytes,M⟩ with
 | false=>
  rw [hM] at h2;rw [if_neg (by simp)];refine AC.E func217 ntmps217 ?_;intro X hρ hmks;iterate 4 refine CP.SL ?_
  repeat' (first|((first|refine wA1 ?_|(refine GA ?_ ?_<;>intro hg)|(refine GV ?_;intros;simp only [nz])|refine wA6 ?_)<;>try refine NQ ?_)|refine wT8 ?_|with_reducible intro Q' hQ'|(refine GC ?_ ?_<;>intro hc)|simp only [laq])
  first|refine cp_drwX fun Q' hQ'=>?_|refine cp_drawX ?_
  iterate 4 refine DS0 ?_
  refine DW.R ?_ (h:=by (intro X V;simp only [ft,nm,Nat.reduceAdd,Nat.reduceBEq];refine AP.pure rfl (Pq.fs (pq_slice_fs rfl rfl rfl rfl rfl rfl .no (.int rfl) (.int rfl) (Nat.zero_le _) (by simp;omega))) ?_;(try refine NX ?_);refine AP.nil ?_;first|exact ⟨trivial,rfl⟩|exact ⟨rfl,rfl⟩));simp only [List.drop_zero,Nat.sub_zero,←List.map_take]
  repeat' (first|((first|refine wA1 ?_|(refine GA ?_ ?_<;>intro hg)|(refine GV ?_;intros;simp only [nz])|refine wA6 ?_|refine wD1 ?_)<;>try refine wN12 ?_)|refine wT6 ?_|with_reducible intro Q' hQ'|(refine GC ?_ ?_<;>intro hc)|simp only [laq])
  refine AP.gh (gh_fzS (b:=2) rfl) ?_;simp only [roP,nq,Nat.reduceBEq,Nat.reduceAdd,Nat.reduceSub]
  repeat' (first|((first|refine wA1 ?_|(refine GA ?_ ?_<;>intro hg)|(refine GV ?_;intros;simp only [nz])|refine wA6 ?_|refine wD1 ?_)<;>try refine wN12 ?_)|refine wT6 ?_|with_reducible intro Q' hQ'|(refine GC ?_ ?_<;>intro hc)|simp only [laq])
  exact RA0
 | true=>
  rw [hM] at h2;rw [if_pos rfl];refine AC.E func217 ntmps217 ?_;intro X hρ hmks;iterate 4 refine CP.SL ?_
  repeat' (first|((first|refine wA1 ?_|(refine GA ?_ ?_<;>intro hg)|(refine GV ?_;intros;simp only [nz])|refine wA6 ?_)<;>try refine NQ ?_)|refine wT8 ?_|with_reducible intro Q' hQ'|(refine GC ?_ ?_<;>intro hc)|simp only [laq])
  first|refine cp_drwX fun Q' hQ'=>?_|refine cp_drawX ?_
  iterate 4 refine DS0 ?_
  refine DW.R ?_ (h:=by (intro X V;simp only [ft,nm,Nat.reduceAdd,Nat.reduceBEq];refine AP.pure rfl (Pq.fs (pq_slice_fs rfl rfl rfl rfl rfl rfl .no (.int rfl) (.int rfl) (Nat.zero_le _) (by simp;omega))) ?_;(try refine NX ?_);refine AP.nil ?_;first|exact ⟨trivial,rfl⟩|exact ⟨rfl,rfl⟩));simp only [List.drop_zero,Nat.sub_zero,←List.map_take]
  repeat' (first|((first|refine wA1 ?_|(refine GA ?_ ?_<;>intro hg)|(refine GV ?_;intros;simp only [nz])|refine wA6 ?_|refine wD1 ?_)<;>try refine wN12 ?_)|refine wT6 ?_|with_reducible intro Q' hQ'|(refine GC ?_ ?_<;>intro hc)|simp only [laq])
  refine AP.gh (gh_fzS (b:=2) rfl) ?_;simp only [roP,nq,Nat.reduceBEq,Nat.reduceAdd,Nat.reduceSub]
  repeat' (first|((first|refine wA1 ?_|(refine GA ?_ ?_<;>intro hg)|(refine GV ?_;intros;simp only [nz])|refine wA6 ?_|refine wD1 ?_)<;>try refine wN12 ?_)|refine wT6 ?_|with_reducible intro Q' hQ'|(refine GC ?_ ?_<;>intro hc)|simp only [laq])
  exact RA0
