/- Parts. -/
import Derived.Test.YtnjllcnjcpfbhaaGreatZS12
import Derived.Test.YtnjllcnjcpfbhaaGreatZS16
namespace Go.Proofs.YtnjllcnjcpfbhaaGreat
set_option linter.unusedVariables false
set_option linter.unusedSimpArgs false
open Go.RowKit Go.Proofs.Tryz
set_option maxRecDepth 100000
set_option maxHeartbeats 8000000
theorem dsameRp_ac (r:Rep) (hk:r.keys.length<=1000000):AF 19 [.ag (eRp r),.ag (eRp r)] (B true):=by
 have b1:(r.err != r.err)=false:=bne_self_eq_false _;have b2:(r.val != r.val)=false:=bne_self_eq_false _;have b3:(r.n != r.n)=false:=bne_self_eq_false _;have b4:((r.keys.length:Int) != (r.keys.length:Int))=false:=bne_self_eq_false _;obtain ⟨err,val,keys,n,lnk⟩:=r;dsimp only at *;refine AC.E func19 ntmps19 ?_;intro X hρ hmks;iterate 2 refine CP.SL ?_
 repeat' (first|((first|refine wA1 ?_|(refine GA ?_ ?_<;>intro hg)|(refine GV ?_;intros;simp only [nz])|refine wA12 ?_|refine wA6 ?_|refine wD4 ?_|((with_reducible apply DW.k_any);refine DW.known rfl ?_;(with_reducible first|apply DW.sx 2);(iterate 2 (focus (simp only [ft,nm,Nat.reduceAdd,Nat.reduceBEq,List.getElem?_cons_zero,List.getElem?_cons_succ];exact rfl)));(focus (intro X V;simp only [ft,nm,Nat.reduceAdd,Nat.reduceBEq];(try (refine AP.Y ?_;dsimp only));(first|refine AP.EQ ?_|refine AP.SS ?_|fail);(try refine NX ?_);refine AP.nil ?_;(first|refine ⟨trivial,rfl,?_⟩|refine ⟨rfl,rfl,?_⟩);(repeat' (first|exact Mg.nil|apply Mg.keep rfl|apply Mg.take rfl));done));(focus (refine Exists.intro (fun _=>0) ?_;apply Exists.intro;(repeat' (first|exact Mg.nil|apply Mg.keep rfl|apply Mg.take rfl));done));(iterate 2 (focus (exact rfl)))))<;>(try simp only [b1,b2,b3,b4,eqVs,eqV1,BEq.rfl,Bool.and_self,Bool.not_true,nq,Nat.reduceBEq,Nat.reduceAdd,Nat.reduceSub]))|refine wT6 ?_|with_reducible intro Q' hQ'|(refine GC ?_ ?_<;>intro hc)|simp only [laq])
 refine cp_loopS [4,5,41,42,43,44,45,46,47,48,49,50,51,52,53,54,55,56,57,58] (fun k:Nat=>keys.length - k) (fun k=>k<=keys.length) (fun k=>[(5,I k)]) (fun _=>[]) 0 (Nat.zero_le _) (by exact Gh.W) ?_;intro k hk';refine ST0 ?_
 by_cases hlt:k < keys.length
 ·have q1:decide ((k:Int) < (keys.length:Int))=true:=by simp;omega
  have q2:IntKind.i64.wrap ((k:Int) + 1)=((k + 1:Nat):Int):=wrap_i64 (by omega) (by omega);have hr1:(keys.map eT)[k]? = some (eT keys[k]):=by rw [List.getElem?_map,List.getElem?_eq_getElem hlt];rfl
  generalize keys[k]=x at *;have q3:(x != x)=false:=bne_self_eq_false _
  repeat' (first|((first|refine wA1 ?_|(refine GA ?_ ?_<;>intro hg)|(refine GV ?_;intros;simp only [nz])|refine wA5 ?_|refine wA6 ?_|refine wD4 ?_|((with_reducible apply DW.k_any);refine DW.known rfl ?_;(with_reducible first|apply DW.sx 2);(iterate 2 (focus (simp only [ft,nm,Nat.reduceAdd,Nat.reduceBEq,List.getElem?_cons_zero,List.getElem?_cons_succ];exact rfl)));(focus (intro X V;simp only [ft,nm,Nat.reduceAdd,Nat.reduceBEq];(try (refine AP.Y ?_;dsimp only));(first|refine AP.SS ?_|fail);(try refine NX ?_);refine AP.nil ?_;(first|refine ⟨trivial,rfl,?_⟩|refine ⟨rfl,rfl,?_⟩);(repeat' (first|exact Mg.nil|apply Mg.keep rfl|apply Mg.take rfl));done));(focus (refine Exists.intro (fun _=>0) ?_;apply Exists.intro;(repeat' (first|exact Mg.nil|apply Mg.keep rfl|apply Mg.take rfl));done));(iterate 2 (focus (exact rfl)))))<;>try refine wN18 ?_)|refine wT6 ?_|with_reducible intro Q' hQ'|(refine GC ?_ ?_<;>intro hc)|simp only [laq])
  exact ⟨k + 1,by omega,by omega,by exact Gh.W⟩
 ·obtain rfl:k=keys.length:=by omega
  have q1:decide ((keys.length:Int) < (keys.length:Int))=false:=by simp
  repeat' (first|((first|refine wA1 ?_|(refine GA ?_ ?_<;>intro hg)|(refine GV ?_;intros;simp only [nz])|refine wA6 ?_|refine wD1 ?_)<;>try refine wN0 ?_)|refine wT6 ?_|with_reducible intro Q' hQ'|(refine GC ?_ ?_<;>intro hc)|simp only [laq])
  exact RA0
theorem psameRp_ac (r:Rep) (hk:r.keys.length<=1000000):AF 118 [.ag (eRp r),.ag (eRp r)] (B true):=by
 have h1:=req_t r.keys hk;have b1:(r.err == r.err)=true:=BEq.rfl;have b2:(r.val == r.val)=true:=BEq.rfl;have b3:(r.n == r.n)=true:=BEq.rfl;obtain ⟨err,val,keys,n,lnk⟩:=r;dsimp only at *;refine AC.E func118 ntmps118 ?_;intros;iterate 2 refine CP.SL ?_
 repeat' (first|((first|refine wA1 ?_|(refine GA ?_ ?_<;>intro hg)|(refine GV ?_;intros;simp only [nz])|refine wA12 ?_|refine wA6 ?_)<;>(try simp only [b1,b2,b3,eqVs,eqV1,BEq.rfl,Bool.and_self,Bool.not_true,nq,Nat.reduceBEq,Nat.reduceAdd,Nat.reduceSub]))|refine wT3 ?_|with_reducible intro Q' hQ'|(refine GC ?_ ?_<;>intro hc)|simp only [laq])
 exact RA0
theorem psameLa_ac (x:Las) (hk:x.rep.keys.length<=1000000):AF 117 [.ag (eLa x),.ag (eLa x)] (B true):=by
 have h1:=psameRp_ac x.rep hk;have b1:(x.client == x.client)=true:=BEq.rfl;have b2:(x.id == x.id)=true:=BEq.rfl;obtain ⟨client,id,rep⟩:=x;dsimp only at *;refine AC.E func117 ntmps117 ?_;intros;iterate 2 refine CP.SL ?_
 repeat' (first|((first|refine wA1 ?_|(refine GA ?_ ?_<;>intro hg)|(refine GV ?_;intros;simp only [nz])|refine wA6 ?_)<;>(try simp only [b1,b2,nq,Nat.reduceBEq,Nat.reduceAdd,Nat.reduceSub]))|refine wT3 ?_|with_reducible intro Q' hQ'|(refine GC ?_ ?_<;>intro hc)|simp only [laq])
 exact RA0
theorem ssameSp_ac (s:Spc) (hl:s.prs.length<=1000000):AF 11 [.ag (eSp s),.ag (eSp s)] (B true):=by
 have h1:=req_p s.prs hl;have b1:(s.keys == s.keys)=true:=BEq.rfl;have b2:(s.bytes == s.bytes)=true:=BEq.rfl;refine AC.E func11 ntmps11 ?_;intros;iterate 2 refine CP.SL ?_
 repeat' (first|((first|refine wA1 ?_|(refine GA ?_ ?_<;>intro hg)|(refine GV ?_;intros;simp only [nz])|refine wA6 ?_)<;>(try simp only [b1,b2,nq,Nat.reduceBEq,Nat.reduceAdd,Nat.reduceSub]))|refine wT3 ?_|with_reducible intro Q' hQ'|(refine GC ?_ ?_<;>intro hc)|simp only [laq])
 exact RA0
theorem ssameTe_ac (t:Ten) (ht:t.small):AF 56 [.ag (eTe t),.ag (eTe t)] (B true):=by
 have h1:=ssameSp_ac t.spc ht.p;have h2:=req_i t.rev ht.r;have b1:(t.num == t.num)=true:=BEq.rfl;have b2:(t.ser == t.ser)=true:=BEq.rfl;refine AC.E func56 ntmps56 ?_;intros;iterate 2 refine CP.SL ?_
 repeat' (first|((first|refine wA1 ?_|(refine GA ?_ ?_<;>intro hg)|(refine GV ?_;intros;simp only [nz])|refine wA6 ?_)<;>(try simp only [b1,b2,nq,Nat.reduceBEq,Nat.reduceAdd,Nat.reduceSub]))|refine wT3 ?_|with_reducible intro Q' hQ'|(refine GC ?_ ?_<;>intro hc)|simp only [laq])
 exact RA0
theorem eqf_t (l:List Ten) (hl:l.length<=1000000) (hs:∀ t∈l,t.small):AF 55 [.sl none 6 (l.map eTe),.sl none 6 (l.map eTe),.fn 56 []] (B true):=by
 have q0:((l.length:Int) != (l.length:Int))=false:=by simp
 refine AC.E func55 ntmps55 ?_;intros
 repeat' (first|((first|refine wA1 ?_|(refine GA ?_ ?_<;>intro hg)|(refine GV ?_;intros;simp only [nz])|refine wA6 ?_)<;>try refine wN5 ?_)|refine wT3 ?_|with_reducible intro Q' hQ'|(refine GC ?_ ?_<;>intro hc)|simp only [laq])
 iterate 2 refine CP.SL ?_
 refine cp_loopS [6,7,8,9,17,18,19,20,21,22,23,24,25,26,27,28,29,30,31] (fun k:Nat=>l.length - k) (fun k=>k<=l.length) (fun k=>[(17,I k)]) (fun k=>[(0,⟨k,.x⟩),(1,⟨k,.x⟩)]) 0 (Nat.zero_le _) (by exact Gh.W) ?_;intro k hk;refine ST0 ?_
 by_cases hlt:k < l.length
 ·have q1:decide ((k:Int) < (l.length:Int))=true:=by simp;omega
  have q2:IntKind.i64.wrap ((k:Int) + 1)=((k + 1:Nat):Int):=wrap_i64 (by omega) (by omega);have hr1:(l.map eTe)[k]? = some (eTe l[k]):=by rw [List.getElem?_map,List.getElem?_eq_getElem hlt];rfl
  have h2:=ssameTe_ac l[k] (hs _ (List.getElem_mem hlt));generalize l[k]=x at *
  repeat' (first|((first|refine wA1 ?_|(refine GA ?_ ?_<;>intro hg)|(refine GV ?_;intros;simp only [nz])|refine wA6 ?_)<;>(try simp only [q1,q2,Bool.not_true,nq,Nat.reduceBEq,Nat.reduceAdd,Nat.reduceSub]))|refine wT3 ?_|with_reducible intro Q' hQ'|(refine GC ?_ ?_<;>intro hc)|simp only [laq])
  exact ⟨k + 1,by omega,by omega,by exact Gh.W⟩
 ·obtain rfl:k=l.length:=by omega
  have q1:decide ((l.length:Int) < (l.length:Int))=false:=by simp
  repeat' (first|((first|refine wA1 ?_|(refine GA ?_ ?_<;>intro hg)|(refine GV ?_;intros;simp only [nz])|refine wA6 ?_)<;>try refine wN0 ?_)|refine wT3 ?_|with_reducible intro Q' hQ'|(refine GC ?_ ?_<;>intro hc)|simp only [laq])
  exact RA0
theorem eqf_l (l:List Las) (hl:l.length<=1000000) (hs:∀ x∈l,x.rep.keys.length<=1000000):AF 116 [.sl none 77 (l.map eLa),.sl none 77 (l.map eLa),.fn 117 []] (B true):=by
 have q0:((l.length:Int) != (l.length:Int))=false:=by simp
 refine AC.E func116 ntmps116 ?_;intros
 repeat' (first|((first|refine wA1 ?_|(refine GA ?_ ?_<;>intro hg)|(refine GV ?_;intros;simp only [nz])|refine wA6 ?_)<;>try refine wN5 ?_)|refine wT3 ?_|with_reducible intro Q' hQ'|(refine GC ?_ ?_<;>intro hc)|simp only [laq])
 iterate 2 refine CP.SL ?_
 refine cp_loopS [6,7,8,9,17,18,19,20,21,22,23,24,25,26,27,28,29,30,31] (fun k:Nat=>l.length - k) (fun k=>k<=l.length) (fun k=>[(17,I k)]) (fun k=>[(0,⟨k,.x⟩),(1,⟨k,.x⟩)]) 0 (Nat.zero_le _) (by exact Gh.W) ?_;intro k hk;refine ST0 ?_
 by_cases hlt:k < l.length
 ·have q1:decide ((k:Int) < (l.length:Int))=true:=by simp;omega
  have q2:IntKind.i64.wrap ((k:Int) + 1)=((k + 1:Nat):Int):=wrap_i64 (by omega) (by omega);have hr1:(l.map eLa)[k]? = some (eLa l[k]):=by rw [List.getElem?_map,List.getElem?_eq_getElem hlt];rfl
  have h2:=psameLa_ac l[k] (hs _ (List.getElem_mem hlt));generalize l[k]=x at *
  repeat' (first|((first|refine wA1 ?_|(refine GA ?_ ?_<;>intro hg)|(refine GV ?_;intros;simp only [nz])|refine wA6 ?_)<;>(try simp only [q1,q2,Bool.not_true,nq,Nat.reduceBEq,Nat.reduceAdd,Nat.reduceSub]))|refine wT3 ?_|with_reducible intro Q' hQ'|(refine GC ?_ ?_<;>intro hc)|simp only [laq])
  exact ⟨k + 1,by omega,by omega,by exact Gh.W⟩
 ·obtain rfl:k=l.length:=by omega
  have q1:decide ((l.length:Int) < (l.length:Int))=false:=by simp
  repeat' (first|((first|refine wA1 ?_|(refine GA ?_ ?_<;>intro hg)|(refine GV ?_;intros;simp only [nz])|refine wA6 ?_)<;>try refine wN0 ?_)|refine wT3 ?_|with_reducible intro Q' hQ'|(refine GC ?_ ?_<;>intro hc)|simp only [laq])
  exact RA0
theorem psame_ac (l:List Las) (hl:l.length<=1000000) (hs:∀ x∈l,x.rep.keys.length<=1000000):AF 60 [lasA l,lasA l] (B true):=by
 have h1:=eqf_l l hl hs;refine AC.E func60 ntmps60 ?_;intros
 repeat' (first|((first|refine wA1 ?_|(refine GA ?_ ?_<;>intro hg)|(refine GV ?_;intros;simp only [nz])|refine wA6 ?_)<;>try refine NQ ?_)|refine wT3 ?_|with_reducible intro Q' hQ'|(refine GC ?_ ?_<;>intro hc)|simp only [laq])
 exact RA0
theorem stsame_ac (s:St) (hs:s.small) (hl:s.links.length<=1000000) (hk:∀ x∈s.lasts,x.rep.keys.length<=1000000):AF 21 [.ag (eSt s),.ag (eSt s)] (B true):=by
 have h1:=eqf_t s.tens hs.t hs.s;have h2:=req_s s.sh hs.q;have h3:=req_l s.links hl;have h4:=psame_ac s.lasts hs.l hk;have b1:(s.pos == s.pos)=true:=BEq.rfl;refine AC.E func21 ntmps21 ?_;intros;iterate 2 refine CP.SL ?_
 repeat' (first|((first|refine wA1 ?_|(refine GA ?_ ?_<;>intro hg)|(refine GV ?_;intros;simp only [nz])|refine wA6 ?_)<;>(try simp only [b1,nq,Nat.reduceBEq,Nat.reduceAdd,Nat.reduceSub]))|refine wT3 ?_|with_reducible intro Q' hQ'|(refine GC ?_ ?_<;>intro hc)|simp only [laq])
 exact RA0
