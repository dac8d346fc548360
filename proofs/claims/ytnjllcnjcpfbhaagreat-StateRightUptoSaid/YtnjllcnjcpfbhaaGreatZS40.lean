/- Parts. -/
import Derived.Test.YtnjllcnjcpfbhaaGreatZS24
import Derived.Test.YtnjllcnjcpfbhaaGreatZS35
namespace Go.Proofs.YtnjllcnjcpfbhaaGreat
set_option linter.unusedVariables false
set_option linter.unusedSimpArgs false
open Go.RowKit Go.Proofs.Tryz
set_option maxRecDepth 100000
set_option maxHeartbeats 8000000
theorem orsz_ac (s:St) (hm:maySt s=true) (q:Req) (root:List UInt8) (st by_:Int) (hs:s.small) (hl:s.links.length<=1000000) (hx:∀ x∈s.links,x.self.length=32):AC prog 173 [.ag (eAs q root st by_),.bp 0 0 0] [stB s] (fun v bs'=>v=.ag (eRp (oRsz s q st).1)/\bs'=[stB (oRsz s q st).2]):=by
 have h1:=qResize_ac s.sh ⟨q.ten,q.keys,q.spc⟩ (by have:=(maySt_len hm).1;omega);have h0:=rsz_found (x:=⟨q.ten,q.keys,q.spc⟩) hm;unfold oRsz;generalize rszQ s.sh ⟨q.ten,q.keys,q.spc⟩=R at *
 by_cases hR:R.2=0
 ·rw [if_pos hR];obtain ⟨t0,ht0,he0⟩:=h0 hR;rw [hR] at h1;have q1:((0:Int) != 0)=false:=rfl;have h3:=stat_ac s hs.t q.ten;unfold idxT at h3;have hro:=roTe s.tens;rcases idxF_cases (fun x:Ten=>x.num == q.ten) s.tens with ⟨e,hn⟩|⟨n,x,e,hx1,hp,hn⟩
  ·exact absurd (hn t0 ht0) (by simp [he0])
  ·rw [fidx_some hx1 hp hn];dsimp only;rw [hx1];dsimp only;rw [e] at h3;have hnl:=(List.getElem?_eq_some_iff.1 hx1).1;have hr:(s.tens.map eTe)[n]? = some (eTe x):=by rw [List.getElem?_map,hx1];rfl
   by_cases hk:q.keys < x.spc.keys
   ·rw [if_pos (.inl hk)];have q2:=decide_eq_true hk;have h2:=fails_ac 120;refine AC.E func173 ntmps173 ?_;intros;iterate 2 refine CP.SL ?_
    repeat' (first|((first|refine wA1 ?_|(refine GA ?_ ?_<;>intro hg)|(refine GV ?_;intros;simp only [nz])|refine wA6 ?_)<;>try refine wN0 ?_)|refine wT8 ?_|with_reducible intro Q' hQ'|(refine GC ?_ ?_<;>intro hc)|simp only [laq])
    first|refine cp_drwX fun Q' hQ'=>?_|refine cp_drawX ?_
    repeat' (first|((first|refine wA1 ?_|(refine GA ?_ ?_<;>intro hg)|(refine GV ?_;intros;simp only [nz])|refine wA6 ?_|refine wD1 ?_)<;>try refine wN0 ?_)|refine wT8 ?_|with_reducible intro Q' hQ'|(refine GC ?_ ?_<;>intro hc)|simp only [laq])
    repeat' (first|((first|refine wA1 ?_|(refine GA ?_ ?_<;>intro hg)|(refine GV ?_;intros;simp only [nz])|refine wA6 ?_)<;>try refine wN0 ?_)|refine wT8 ?_|with_reducible intro Q' hQ'|(refine GC ?_ ?_<;>intro hc)|simp only [laq])
    first|refine cp_drwX fun Q' hQ'=>?_|refine cp_drawX ?_
    repeat' (first|((first|refine wA1 ?_|(refine GA ?_ ?_<;>intro hg)|(refine GV ?_;intros;simp only [nz])|refine wA6 ?_|refine wD1 ?_)<;>try refine wN0 ?_)|refine wT8 ?_|with_reducible intro Q' hQ'|(refine GC ?_ ?_<;>intro hc)|simp only [laq])
    repeat' (first|((first|refine wA1 ?_|(refine GA ?_ ?_<;>intro hg)|(refine GV ?_;intros;simp only [nz])|refine wA6 ?_)<;>try refine wN0 ?_)|refine wT8 ?_|with_reducible intro Q' hQ'|(refine GC ?_ ?_<;>intro hc)|simp only [laq])
    first|refine cp_drwX fun Q' hQ'=>?_|refine cp_drawX ?_
    repeat' (first|((first|refine wA1 ?_|(refine GA ?_ ?_<;>intro hg)|(refine GV ?_;intros;simp only [nz])|refine wA6 ?_|refine wD1 ?_)<;>try refine wN9 ?_)|refine wT8 ?_|with_reducible intro Q' hQ'|(refine GC ?_ ?_<;>intro hc)|simp only [laq])
    repeat' (first|((first|refine wA1 ?_|(refine GA ?_ ?_<;>intro hg)|(refine GV ?_;intros;simp only [nz])|refine wA6 ?_)<;>try refine wN9 ?_)|refine wT8 ?_|with_reducible intro Q' hQ'|(refine GC ?_ ?_<;>intro hc)|simp only [laq])
    exact RA1
   ·have q2:=decide_eq_false hk
    by_cases hb:q.spc < x.spc.bytes
    ·rw [if_pos (.inr hb)];have q3:=decide_eq_true hb;have h2:=fails_ac 120;refine AC.E func173 ntmps173 ?_;intros;iterate 2 refine CP.SL ?_
     repeat' (first|((first|refine wA1 ?_|(refine GA ?_ ?_<;>intro hg)|(refine GV ?_;intros;simp only [nz])|refine wA6 ?_)<;>try refine wN0 ?_)|refine wT8 ?_|with_reducible intro Q' hQ'|(refine GC ?_ ?_<;>intro hc)|simp only [laq])
     first|refine cp_drwX fun Q' hQ'=>?_|refine cp_drawX ?_
     repeat' (first|((first|refine wA1 ?_|(refine GA ?_ ?_<;>intro hg)|(refine GV ?_;intros;simp only [nz])|refine wA6 ?_|refine wD1 ?_)<;>try refine wN0 ?_)|refine wT8 ?_|with_reducible intro Q' hQ'|(refine GC ?_ ?_<;>intro hc)|simp only [laq])
     repeat' (first|((first|refine wA1 ?_|(refine GA ?_ ?_<;>intro hg)|(refine GV ?_;intros;simp only [nz])|refine wA6 ?_)<;>try refine wN0 ?_)|refine wT8 ?_|with_reducible intro Q' hQ'|(refine GC ?_ ?_<;>intro hc)|simp only [laq])
     first|refine cp_drwX fun Q' hQ'=>?_|refine cp_drawX ?_
     repeat' (first|((first|refine wA1 ?_|(refine GA ?_ ?_<;>intro hg)|(refine GV ?_;intros;simp only [nz])|refine wA6 ?_|refine wD1 ?_)<;>try refine wN0 ?_)|refine wT8 ?_|with_reducible intro Q' hQ'|(refine GC ?_ ?_<;>intro hc)|simp only [laq])
     repeat' (first|((first|refine wA1 ?_|(refine GA ?_ ?_<;>intro hg)|(refine GV ?_;intros;simp only [nz])|refine wA6 ?_)<;>try refine wN0 ?_)|refine wT8 ?_|with_reducible intro Q' hQ'|(refine GC ?_ ?_<;>intro hc)|simp only [laq])
     first|refine cp_drwX fun Q' hQ'=>?_|refine cp_drawX ?_
     repeat' (first|((first|refine wA1 ?_|(refine GA ?_ ?_<;>intro hg)|(refine GV ?_;intros;simp only [nz])|refine wA6 ?_|refine wD1 ?_)<;>try refine wN4 ?_)|refine wT8 ?_|with_reducible intro Q' hQ'|(refine GC ?_ ?_<;>intro hc)|simp only [laq])
     repeat' (first|((first|refine wA1 ?_|(refine GA ?_ ?_<;>intro hg)|(refine GV ?_;intros;simp only [nz])|refine wA6 ?_)<;>try refine wN4 ?_)|refine wT8 ?_|with_reducible intro Q' hQ'|(refine GC ?_ ?_<;>intro hc)|simp only [laq])
     exact RA1
    ·rw [if_neg (by omega)];have q3:=decide_eq_false hb;have h6:=olink_ac { s with sh:=R.1,tens:=s.tens.set n { x with spc:=⟨q.keys,q.spc,x.spc.prs⟩ } } q root st by_ q.keys q.spc 0 hl hx;have e6:(s.tens.set n { x with spc:=⟨q.keys,q.spc,x.spc.prs⟩ }).map eTe=(s.tens.map eTe).set n (eTe { x with spc:=⟨q.keys,q.spc,x.spc.prs⟩ }):=List.map_set;unfold stB eStO at h6;dsimp only at h6 e6;rw [e6] at h6;have hr2:((s.tens.map eTe).set n [I x.num,I x.ser,I q.keys,I x.spc.bytes,prsA x.spc.prs,.sl none 1 (x.rev.map eI)])[n]? = some [I x.num,I x.ser,I q.keys,I x.spc.bytes,prsA x.spc.prs,.sl none 1 (x.rev.map eI)]:=List.getElem?_set_self (by rw [List.length_map];exact hnl);refine AC.E func173 ntmps173 ?_;intros;iterate 2 refine CP.SL ?_
     repeat' (first|((first|refine wA1 ?_|(refine GA ?_ ?_<;>intro hg)|(refine GV ?_;intros;simp only [nz])|refine wA6 ?_)<;>try refine wN0 ?_)|refine wT8 ?_|with_reducible intro Q' hQ'|(refine GC ?_ ?_<;>intro hc)|simp only [laq])
     first|refine cp_drwX fun Q' hQ'=>?_|refine cp_drawX ?_
     repeat' (first|((first|refine wA1 ?_|(refine GA ?_ ?_<;>intro hg)|(refine GV ?_;intros;simp only [nz])|refine wA6 ?_|refine wD1 ?_)<;>try refine wN0 ?_)|refine wT8 ?_|with_reducible intro Q' hQ'|(refine GC ?_ ?_<;>intro hc)|simp only [laq])
     repeat' (first|((first|refine wA1 ?_|(refine GA ?_ ?_<;>intro hg)|(refine GV ?_;intros;simp only [nz])|refine wA6 ?_)<;>try refine wN0 ?_)|refine wT8 ?_|with_reducible intro Q' hQ'|(refine GC ?_ ?_<;>intro hc)|simp only [laq])
     first|refine cp_drwX fun Q' hQ'=>?_|refine cp_drawX ?_
     repeat' (first|((first|refine wA1 ?_|(refine GA ?_ ?_<;>intro hg)|(refine GV ?_;intros;simp only [nz])|refine wA6 ?_|refine wD1 ?_)<;>try refine wN0 ?_)|refine wT8 ?_|with_reducible intro Q' hQ'|(refine GC ?_ ?_<;>intro hc)|simp only [laq])
     repeat' (first|((first|refine wA1 ?_|(refine GA ?_ ?_<;>intro hg)|(refine GV ?_;intros;simp only [nz])|refine wA6 ?_)<;>try refine wN0 ?_)|refine wT8 ?_|with_reducible intro Q' hQ'|(refine GC ?_ ?_<;>intro hc)|simp only [laq])
     first|refine cp_drwX fun Q' hQ'=>?_|refine cp_drawX ?_
     repeat' (first|((first|refine wA1 ?_|(refine GA ?_ ?_<;>intro hg)|(refine GV ?_;intros;simp only [nz])|refine wA6 ?_|refine wD1 ?_)<;>try refine wN4 ?_)|refine wT8 ?_|with_reducible intro Q' hQ'|(refine GC ?_ ?_<;>intro hc)|simp only [laq])
     repeat' (first|((first|refine wA1 ?_|(refine GA ?_ ?_<;>intro hg)|(refine GV ?_;intros;simp only [nz])|refine wA6 ?_)<;>try refine wN4 ?_)|refine wT8 ?_|with_reducible intro Q' hQ'|(refine GC ?_ ?_<;>intro hc)|simp only [laq])
     first|refine cp_drwX fun Q' hQ'=>?_|refine cp_drawX ?_
     iterate 12 (((with_reducible apply DW.k_any);refine DW.ST ?_)<;>(try simp only [spl,List.set_set,nq,Nat.reduceBEq,Nat.reduceAdd,Nat.reduceSub]))
     repeat' (first|((first|refine wA1 ?_|(refine GA ?_ ?_<;>intro hg)|(refine GV ?_;intros;simp only [nz])|refine aC4 h6 ?_|refine wA6 ?_|refine wD4 ?_|refine dC3 h6 ?_)<;>(try simp only [spl,List.set_set,nq,Nat.reduceBEq,Nat.reduceAdd,Nat.reduceSub]))|refine wT6 ?_|with_reducible intro Q' hQ'|(refine GC ?_ ?_<;>intro hc)|simp only [laq])
     exact RA1
 ·rw [if_neg hR];have q1:(R.2 != 0)=true:=by simpa using hR
  have h2:=fails_ac R.2;clear h0;refine AC.E func173 ntmps173 ?_;intros;iterate 2 refine CP.SL ?_
  repeat' (first|((first|refine wA1 ?_|(refine GA ?_ ?_<;>intro hg)|(refine GV ?_;intros;simp only [nz])|refine wA6 ?_|refine wD1 ?_)<;>try refine wN0 ?_)|refine wT6 ?_|with_reducible intro Q' hQ'|(refine GC ?_ ?_<;>intro hc)|simp only [laq])
  exact RA1
