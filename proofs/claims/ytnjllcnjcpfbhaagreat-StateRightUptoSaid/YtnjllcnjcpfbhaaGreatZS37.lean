/- Parts. -/
import Derived.Test.YtnjllcnjcpfbhaaGreatZS36
namespace Go.Proofs.YtnjllcnjcpfbhaaGreat
set_option linter.unusedVariables false
set_option linter.unusedSimpArgs false
open Go.RowKit Go.Proofs.Tryz
set_option maxRecDepth 100000
set_option maxHeartbeats 8000000
theorem do_rev_ac {root body key:List UInt8} {s:St} {st:Int} {q:Req} {T:Tok} {n:Nat} {x:Ten}
 (h1:AF 51 [.ag (eSt s)] (.ag (eSt s)))
 (h2:AF 9 [.ag (eSt s)] (B true))
 (h4:AF 12 [bs none body] (.tu [.ag (eRq q),I 0]))
 (h5:AF 14 [bs none q.tok] (.tu [.ag (eTok T),I 0]))
 (h6:AF 17 [bs none root,I T.ten] (bs none key))
 (h7:AF 16 [bs none key,.ag (eTok T)] (I 0))
 (h8:AF 30 [.ag (eSt s),I T.ten] (I (n:Int)))
 (hx:s.tens[n]? = some x)
 (h9:AF 109 [.sl none 1 (x.rev.map eI),grA T.line] (B true)) :
 AF 53 [bs none root,.ag (eSt s),I st,bs none body] (.tu [.ag (eSt s),.ag (eRp (failR 93))]):=by
 have hnl:=(List.getElem?_eq_some_iff.1 hx).1;have hr:(s.tens.map eTe)[n]? = some (eTe x):=by rw [List.getElem?_map,hx];rfl
 have q0:((0:Int) != 0)=false:=rfl;have q5:decide ((n:Int) < 0)=false:=by simp
 have h3:=fails_ac 93;refine AC.E func53 ntmps53 ?_;intros;iterate 3 refine CP.SL ?_
 repeat' (first|((first|refine wA1 ?_|(refine GA ?_ ?_<;>intro hg)|(refine GV ?_;intros;simp only [nz])|refine wA6 ?_|refine wD1 ?_)<;>try refine wN26 ?_)|refine wT6 ?_|with_reducible intro Q' hQ'|(refine GC ?_ ?_<;>intro hc)|simp only [laq])
 exact RA0
theorem do_ver_ac {root body key:List UInt8} {s:St} {st:Int} {q:Req} {T:Tok} {n:Nat} {x:Ten} {nd:UInt8} {vv:Int}
 (h1:AF 51 [.ag (eSt s)] (.ag (eSt s)))
 (h2:AF 9 [.ag (eSt s)] (B true))
 (h4:AF 12 [bs none body] (.tu [.ag (eRq q),I 0]))
 (h5:AF 14 [bs none q.tok] (.tu [.ag (eTok T),I 0]))
 (h6:AF 17 [bs none root,I T.ten] (bs none key))
 (h7:AF 16 [bs none key,.ag (eTok T)] (I 0))
 (h8:AF 30 [.ag (eSt s),I T.ten] (I (n:Int)))
 (hx:s.tens[n]? = some x)
 (h9:AF 109 [.sl none 1 (x.rev.map eI),grA T.line] (B false))
 (h10:AF 110 [U q.op] (U nd))
 (h11:AF 111 [bs none key,.ag (eTok T),I st,U nd] (I vv)) (hv:vv≠0) :
 AF 53 [bs none root,.ag (eSt s),I st,bs none body] (.tu [.ag (eSt s),.ag (eRp (failR vv))]):=by
 have hnl:=(List.getElem?_eq_some_iff.1 hx).1;have hr:(s.tens.map eTe)[n]? = some (eTe x):=by rw [List.getElem?_map,hx];rfl
 have q0:((0:Int) != 0)=false:=rfl;have q5:decide ((n:Int) < 0)=false:=by simp
 have h3:=fails_ac vv;have q6:(vv != 0)=true:=by simpa using hv
 refine AC.E func53 ntmps53 ?_;intros;iterate 3 refine CP.SL ?_
 repeat' (first|((first|refine wA1 ?_|(refine GA ?_ ?_<;>intro hg)|(refine GV ?_;intros;simp only [nz])|refine wA6 ?_|refine wD1 ?_)<;>(try simp only [q0,q5,q6,nq,Nat.reduceBEq,Nat.reduceAdd,Nat.reduceSub]))|refine wT6 ?_|with_reducible intro Q' hQ'|(refine GC ?_ ?_<;>intro hc)|simp only [laq])
 exact RA0
theorem do_rgt_ac {root body key:List UInt8} {s:St} {st:Int} {q:Req} {T:Tok} {n:Nat} {x:Ten} {nd:UInt8} {vv:Int}
 (h1:AF 51 [.ag (eSt s)] (.ag (eSt s)))
 (h2:AF 9 [.ag (eSt s)] (B true))
 (h4:AF 12 [bs none body] (.tu [.ag (eRq q),I 0]))
 (h5:AF 14 [bs none q.tok] (.tu [.ag (eTok T),I 0]))
 (h6:AF 17 [bs none root,I T.ten] (bs none key))
 (h7:AF 16 [bs none key,.ag (eTok T)] (I 0))
 (h8:AF 30 [.ag (eSt s),I T.ten] (I (n:Int)))
 (hx:s.tens[n]? = some x)
 (h9:AF 109 [.sl none 1 (x.rev.map eI),grA T.line] (B false))
 (h10:AF 110 [U q.op] (U nd))
 (h11:AF 111 [bs none key,.ag (eTok T),I st,U nd] (I vv)) (hv:vv=0) (hnd:nd=8) (ht:T.ten≠0) :
 AF 53 [bs none root,.ag (eSt s),I st,bs none body] (.tu [.ag (eSt s),.ag (eRp (failR 94))]):=by
 have hnl:=(List.getElem?_eq_some_iff.1 hx).1;have hr:(s.tens.map eTe)[n]? = some (eTe x):=by rw [List.getElem?_map,hx];rfl
 have q0:((0:Int) != 0)=false:=rfl;have q5:decide ((n:Int) < 0)=false:=by simp
 have h3:=fails_ac 94;subst hv hnd;have q7:((UInt8.toNat 8:Nat):Int)=8:=rfl;have q8:((8:Int) == 0)=false:=rfl;have q9:((8:Int) == 8)=true:=rfl;have q10:(T.ten != 0)=true:=by simpa using ht
 refine AC.E func53 ntmps53 ?_;intros;iterate 3 refine CP.SL ?_
 repeat' (first|((first|refine wA1 ?_|(refine GA ?_ ?_<;>intro hg)|(refine GV ?_;intros;simp only [nz])|refine wA6 ?_|refine wD1 ?_)<;>(try simp only [q0,q5,q7,q8,q9,q10,nq,Nat.reduceBEq,Nat.reduceAdd,Nat.reduceSub]))|refine wT6 ?_|with_reducible intro Q' hQ'|(refine GC ?_ ?_<;>intro hc)|simp only [laq])
 exact RA0
theorem do_zero_ac {root body key:List UInt8} {s:St} {st:Int} {q:Req} {T:Tok} {n:Nat} {x:Ten} {nd:UInt8} {vv:Int}
 (h1:AF 51 [.ag (eSt s)] (.ag (eSt s)))
 (h2:AF 9 [.ag (eSt s)] (B true))
 (h4:AF 12 [bs none body] (.tu [.ag (eRq q),I 0]))
 (h5:AF 14 [bs none q.tok] (.tu [.ag (eTok T),I 0]))
 (h6:AF 17 [bs none root,I T.ten] (bs none key))
 (h7:AF 16 [bs none key,.ag (eTok T)] (I 0))
 (h8:AF 30 [.ag (eSt s),I T.ten] (I (n:Int)))
 (hx:s.tens[n]? = some x)
 (h9:AF 109 [.sl none 1 (x.rev.map eI),grA T.line] (B false))
 (h10:AF 110 [U q.op] (U nd))
 (h11:AF 111 [bs none key,.ag (eTok T),I st,U nd] (I vv)) (hv:vv=0) (hnd:nd=0) :
 AF 53 [bs none root,.ag (eSt s),I st,bs none body] (.tu [.ag (eSt s),.ag (eRp (failR 94))]):=by
 have hnl:=(List.getElem?_eq_some_iff.1 hx).1;have hr:(s.tens.map eTe)[n]? = some (eTe x):=by rw [List.getElem?_map,hx];rfl
 have q0:((0:Int) != 0)=false:=rfl;have q5:decide ((n:Int) < 0)=false:=by simp
 have h3:=fails_ac 94;subst hv hnd;have q7:((UInt8.toNat 0:Nat):Int)=0:=rfl;have q8:((0:Int) == 0)=true:=rfl;refine AC.E func53 ntmps53 ?_;intros;iterate 3 refine CP.SL ?_
 repeat' (first|((first|refine wA1 ?_|(refine GA ?_ ?_<;>intro hg)|(refine GV ?_;intros;simp only [nz])|refine wA6 ?_|refine wD1 ?_)<;>(try simp only [q0,q5,q7,q8,nq,Nat.reduceBEq,Nat.reduceAdd,Nat.reduceSub]))|refine wT6 ?_|with_reducible intro Q' hQ'|(refine GC ?_ ?_<;>intro hc)|simp only [laq])
 exact RA0
