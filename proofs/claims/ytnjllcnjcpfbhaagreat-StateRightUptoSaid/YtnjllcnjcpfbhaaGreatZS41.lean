/- Parts. -/
import Derived.Test.YtnjllcnjcpfbhaaGreatZS39
namespace Go.Proofs.YtnjllcnjcpfbhaaGreat
set_option linter.unusedVariables false
set_option linter.unusedSimpArgs false
open Go.RowKit Go.Proofs.Tryz
set_option maxRecDepth 100000
set_option maxHeartbeats 8000000
theorem wN19 {G G':Prop} (K:G') (h:G'->G:=by (intro kz;simp only [w1,q2,nq,Nat.reduceBEq,Nat.reduceAdd,Nat.reduceSub];exact kz)):G:=h K
theorem ognt_ac (s:St) (hm:maySt s=true) (q:Req) (root:List UInt8) (hrt:root.length<=100000) (st by_:Int) (hs:s.small) (hl:s.links.length<=1000000) (hx:∀ x∈s.links,x.self.length=32):AC prog 174 [.ag (eAs q root st by_),.bp 0 0 0] [stB s] (fun v bs'=>v=.ag (eRp (oGnt root s q st).1)/\bs'=[stB (oGnt root s q st).2]):=by
 have h3:=stat_ac s hs.t q.ten;unfold idxT at h3;have hro:=roTe s.tens;unfold oGnt;rcases idxF_cases (fun x:Ten=>x.num == q.ten) s.tens with ⟨e,hn⟩|⟨n,x,e,hx1,hp,hn⟩
 ·rw [show s.tens.findIdx? (fun x:Ten=>x.num == q.ten)=none from List.findIdx?_eq_none_iff.2 hn];rw [e] at h3;have h2:=fails_ac 160;refine AC.E func174 ntmps174 ?_;intro X hρ hmks;iterate 2 refine CP.SL ?_
  repeat' (first|((first|refine wA1 ?_|(refine GA ?_ ?_<;>intro hg)|(refine GV ?_;intros;simp only [nz])|refine wA6 ?_|refine wD1 ?_)<;>try refine NQ ?_)|refine wT6 ?_|with_reducible intro Q' hQ'|(refine GC ?_ ?_<;>intro hc)|simp only [laq])
  exact RA1
 ·rw [fidx_some hx1 hp hn];dsimp only;rw [hx1];dsimp only;rw [e] at h3;have hnl:=(List.getElem?_eq_some_iff.1 hx1).1;have hr:(s.tens.map eTe)[n]? = some (eTe x):=by rw [List.getElem?_map,hx1];rfl
  have q1:decide ((n:Int) < 0)=false:=by simp
  have hck:=(maySt_tens hm x (List.mem_of_getElem? hx1)).1;simp only [clkS,Bool.and_eq_true,decide_eq_true_eq] at hck;have w1:IntKind.i64.wrap (x.ser + 1)=x.ser + 1:=wrap_i64 (by omega) (by omega);have h4:=gmay_ac ⟨q.g.rts,q.g.exp,x.ser + 1⟩
  cases hg:grS ⟨q.g.rts,q.g.exp,x.ser + 1⟩ with
  | false=>
   rw [if_pos rfl];rw [hg] at h4;have h2:=fails_ac 2;refine AC.E func174 ntmps174 ?_;intro X hρ hmks;iterate 2 refine CP.SL ?_
   repeat' (first|((first|refine wA1 ?_|(refine GA ?_ ?_<;>intro hg)|(refine GV ?_;intros;simp only [nz])|refine wA6 ?_)<;>try refine wN0 ?_)|refine wT8 ?_|with_reducible intro Q' hQ'|(refine GC ?_ ?_<;>intro hc)|simp only [laq])
   first|refine cp_drwX fun Q' hQ'=>?_|refine cp_drawX ?_
   repeat' (first|((first|refine wA1 ?_|(refine GA ?_ ?_<;>intro hg)|(refine GV ?_;intros;simp only [nz])|refine wA6 ?_|refine wD1 ?_)<;>try refine wN0 ?_)|refine wT8 ?_|with_reducible intro Q' hQ'|(refine GC ?_ ?_<;>intro hc)|simp only [laq])
   repeat' (first|((first|refine wA1 ?_|(refine GA ?_ ?_<;>intro hg)|(refine GV ?_;intros;simp only [nz])|refine wA6 ?_)<;>try refine wN0 ?_)|refine wT8 ?_|with_reducible intro Q' hQ'|(refine GC ?_ ?_<;>intro hc)|simp only [laq])
   iterate 2 refine CP.SL ?_
   first|refine cp_drwX fun Q' hQ'=>?_|refine cp_drawX ?_
   repeat' (first|((first|refine wA1 ?_|(refine GA ?_ ?_<;>intro hg)|(refine GV ?_;intros;simp only [nz])|refine wA6 ?_|refine wD1 ?_)<;>try refine wN24 ?_)|refine wT8 ?_|with_reducible intro Q' hQ'|(refine GC ?_ ?_<;>intro hc)|simp only [laq])
   exact RA1
  | true=>
   rw [if_neg (by simp)];rw [hg] at h4;have h5:=has_ac q.g.rts 8;have h7:=skey_ac root hrt q.ten;have hkl:(keyT root q.ten).length<=1000000:=by unfold keyT;exact Nat.le_trans (Nat.le_of_eq (hmacS_len _ _)) (by omega)
   have h8:=mint_ac (keyT root q.ten) hkl q.ten ⟨q.g.rts,q.g.exp,x.ser + 1⟩
   have hMt:(mintS (keyT root q.ten) q.ten ⟨q.g.rts,q.g.exp,x.ser + 1⟩).1.tag.length=32/\(mintS (keyT root q.ten) q.ten ⟨q.g.rts,q.g.exp,x.ser + 1⟩).1.line.length<=1:=by
    unfold mintS;split
    ·exact ⟨rfl,Nat.zero_le _⟩
    ·exact ⟨hmacS_len _ _,Nat.le_refl _⟩
   generalize mintS (keyT root q.ten) q.ten ⟨q.g.rts,q.g.exp,x.ser + 1⟩=M at *;generalize keyT root q.ten=key at *
   by_cases ht:q.ten≠0/\hasR q.g.rts 8=true
   ·rw [if_pos ht];have q2:(q.ten != 0)=true:=by simpa using ht.1
    rw [ht.2] at h5;have h2:=fails_ac 94;clear h7 h8;refine AC.E func174 ntmps174 ?_;intro X hρ hmks;iterate 2 refine CP.SL ?_
    repeat' (first|((first|refine wA1 ?_|(refine GA ?_ ?_<;>intro hg)|(refine GV ?_;intros;simp only [nz])|refine wA6 ?_)<;>try refine wN0 ?_)|refine wT8 ?_|with_reducible intro Q' hQ'|(refine GC ?_ ?_<;>intro hc)|simp only [laq])
    first|refine cp_drwX fun Q' hQ'=>?_|refine cp_drawX ?_
    repeat' (first|((first|refine wA1 ?_|(refine GA ?_ ?_<;>intro hg)|(refine GV ?_;intros;simp only [nz])|refine wA6 ?_|refine wD1 ?_)<;>try refine wN0 ?_)|refine wT8 ?_|with_reducible intro Q' hQ'|(refine GC ?_ ?_<;>intro hc)|simp only [laq])
    repeat' (first|((first|refine wA1 ?_|(refine GA ?_ ?_<;>intro hg)|(refine GV ?_;intros;simp only [nz])|refine wA6 ?_)<;>try refine wN0 ?_)|refine wT8 ?_|with_reducible intro Q' hQ'|(refine GC ?_ ?_<;>intro hc)|simp only [laq])
    iterate 2 refine CP.SL ?_
    first|refine cp_drwX fun Q' hQ'=>?_|refine cp_drawX ?_
    repeat' (first|((first|refine wA1 ?_|(refine GA ?_ ?_<;>intro hg)|(refine GV ?_;intros;simp only [nz])|refine wA6 ?_|refine wD1 ?_)<;>try refine wN19 ?_)|refine wT8 ?_|with_reducible intro Q' hQ'|(refine GC ?_ ?_<;>intro hc)|simp only [laq])
    exact RA1
   ·rw [if_neg ht]
    by_cases hM:M.2=0
    ·rw [if_pos hM];rw [hM] at h8;have q4:((0:Int) != 0)=false:=rfl;have h9:=tprint_ac M.1 hMt.1 (by omega);have hw:=u8_i64 q.g.rts;have h6:=olink_ac { s with tens:=s.tens.set n { x with ser:=x.ser + 1 } } q root st by_ (q.g.rts.toNat:Int) q.g.exp (x.ser + 1) hl hx;have e6:(s.tens.set n { x with ser:=x.ser + 1 }).map eTe=(s.tens.map eTe).set n (eTe { x with ser:=x.ser + 1 }):=List.map_set;unfold stB eStO at h6;dsimp only at h6 e6;rw [e6] at h6;clear e6
     by_cases h0:q.ten=0
     ·have q2:(q.ten != 0)=false:=by simpa using h0
      clear h5;refine AC.E func174 ntmps174 ?_;intro X hρ hmks;iterate 2 refine CP.SL ?_
      repeat' (first|((first|refine wA1 ?_|(refine GA ?_ ?_<;>intro hg)|(refine GV ?_;intros;simp only [nz])|refine wA6 ?_)<;>try refine wN0 ?_)|refine wT8 ?_|with_reducible intro Q' hQ'|(refine GC ?_ ?_<;>intro hc)|simp only [laq])
      first|refine cp_drwX fun Q' hQ'=>?_|refine cp_drawX ?_
      repeat' (first|((first|refine wA1 ?_|(refine GA ?_ ?_<;>intro hg)|(refine GV ?_;intros;simp only [nz])|refine wA6 ?_|refine wD1 ?_)<;>try refine wN0 ?_)|refine wT8 ?_|with_reducible intro Q' hQ'|(refine GC ?_ ?_<;>intro hc)|simp only [laq])
      repeat' (first|((first|refine wA1 ?_|(refine GA ?_ ?_<;>intro hg)|(refine GV ?_;intros;simp only [nz])|refine wA6 ?_)<;>try refine wN0 ?_)|refine wT8 ?_|with_reducible intro Q' hQ'|(refine GC ?_ ?_<;>intro hc)|simp only [laq])
      iterate 2 refine CP.SL ?_
      first|refine cp_drwX fun Q' hQ'=>?_|refine cp_drawX ?_
      repeat' (first|((first|refine wA1 ?_|(refine GA ?_ ?_<;>intro hg)|(refine GV ?_;intros;simp only [nz])|refine wA6 ?_|refine wD1 ?_)<;>try refine wN19 ?_)|refine wT8 ?_|with_reducible intro Q' hQ'|(refine GC ?_ ?_<;>intro hc)|simp only [laq])
      iterate 2 refine CP.SL ?_
      first|refine cp_drwX fun Q' hQ'=>?_|refine cp_drawX ?_
      repeat' (first|((first|refine wA1 ?_|(refine GA ?_ ?_<;>intro hg)|(refine GV ?_;intros;simp only [nz])|refine aC4 h6 ?_|refine wA6 ?_|refine wD4 ?_|refine dC3 h6 ?_)<;>(try simp only [q4,w1,hw,spl,nq,Nat.reduceBEq,Nat.reduceAdd,Nat.reduceSub]))|refine wT8 ?_|with_reducible intro Q' hQ'|(refine GC ?_ ?_<;>intro hc)|simp only [laq])
      first|refine cp_drwX fun Q' hQ'=>?_|refine cp_drawX ?_
      iterate 2 refine DS0 ?_
      refine DW.RA ?_ (h:=by (intro X V;simp only [ft,nm,Nat.reduceAdd,Nat.reduceBEq];(try (refine AP.Y ?_;dsimp only));refine AP.SS ?_;(try refine NX ?_);refine AP.nil ?_;first|exact ⟨trivial,rfl⟩|exact ⟨rfl,rfl⟩));refine NQ ?_
      repeat' (first|((first|refine wA1 ?_|(refine GA ?_ ?_<;>intro hg)|(refine GV ?_;intros;simp only [nz])|refine wA6 ?_|refine wD1 ?_)<;>try refine NQ ?_)|refine wT6 ?_|with_reducible intro Q' hQ'|(refine GC ?_ ?_<;>intro hc)|simp only [laq])
      exact RA1
     ·have q2:(q.ten != 0)=true:=by simpa using h0
      have hh:hasR q.g.rts 8=false:=by
       cases h:hasR q.g.rts 8 with
       | false=>rfl
       | true=>exact absurd ⟨h0,h⟩ ht
      rw [hh] at h5;refine AC.E func174 ntmps174 ?_;intro X hρ hmks;iterate 2 refine CP.SL ?_
      repeat' (first|((first|refine wA1 ?_|(refine GA ?_ ?_<;>intro hg)|(refine GV ?_;intros;simp only [nz])|refine wA6 ?_)<;>try refine wN0 ?_)|refine wT8 ?_|with_reducible intro Q' hQ'|(refine GC ?_ ?_<;>intro hc)|simp only [laq])
      first|refine cp_drwX fun Q' hQ'=>?_|refine cp_drawX ?_
      repeat' (first|((first|refine wA1 ?_|(refine GA ?_ ?_<;>intro hg)|(refine GV ?_;intros;simp only [nz])|refine wA6 ?_|refine wD1 ?_)<;>try refine wN0 ?_)|refine wT8 ?_|with_reducible intro Q' hQ'|(refine GC ?_ ?_<;>intro hc)|simp only [laq])
      repeat' (first|((first|refine wA1 ?_|(refine GA ?_ ?_<;>intro hg)|(refine GV ?_;intros;simp only [nz])|refine wA6 ?_)<;>try refine wN0 ?_)|refine wT8 ?_|with_reducible intro Q' hQ'|(refine GC ?_ ?_<;>intro hc)|simp only [laq])
      iterate 2 refine CP.SL ?_
      first|refine cp_drwX fun Q' hQ'=>?_|refine cp_drawX ?_
      repeat' (first|((first|refine wA1 ?_|(refine GA ?_ ?_<;>intro hg)|(refine GV ?_;intros;simp only [nz])|refine wA6 ?_|refine wD1 ?_)<;>try refine wN19 ?_)|refine wT8 ?_|with_reducible intro Q' hQ'|(refine GC ?_ ?_<;>intro hc)|simp only [laq])
      iterate 2 refine CP.SL ?_
      first|refine cp_drwX fun Q' hQ'=>?_|refine cp_drawX ?_
      repeat' (first|((first|refine wA1 ?_|(refine GA ?_ ?_<;>intro hg)|(refine GV ?_;intros;simp only [nz])|refine aC4 h6 ?_|refine wA6 ?_|refine wD4 ?_|refine dC3 h6 ?_)<;>(try simp only [q4,w1,hw,spl,nq,Nat.reduceBEq,Nat.reduceAdd,Nat.reduceSub]))|refine wT8 ?_|with_reducible intro Q' hQ'|(refine GC ?_ ?_<;>intro hc)|simp only [laq])
      first|refine cp_drwX fun Q' hQ'=>?_|refine cp_drawX ?_
      iterate 2 refine DS0 ?_
      refine DW.RA ?_ (h:=by (intro X V;simp only [ft,nm,Nat.reduceAdd,Nat.reduceBEq];(try (refine AP.Y ?_;dsimp only));refine AP.SS ?_;(try refine NX ?_);refine AP.nil ?_;first|exact ⟨trivial,rfl⟩|exact ⟨rfl,rfl⟩));refine NQ ?_
      repeat' (first|((first|refine wA1 ?_|(refine GA ?_ ?_<;>intro hg)|(refine GV ?_;intros;simp only [nz])|refine wA6 ?_|refine wD1 ?_)<;>try refine NQ ?_)|refine wT6 ?_|with_reducible intro Q' hQ'|(refine GC ?_ ?_<;>intro hc)|simp only [laq])
      exact RA1
    ·rw [if_neg hM];have q4:(M.2 != 0)=true:=by simpa using hM
     have h2:=fails_ac M.2
     by_cases h0:q.ten=0
     ·have q2:(q.ten != 0)=false:=by simpa using h0
      clear h5;refine AC.E func174 ntmps174 ?_;intro X hρ hmks;iterate 2 refine CP.SL ?_
      repeat' (first|((first|refine wA1 ?_|(refine GA ?_ ?_<;>intro hg)|(refine GV ?_;intros;simp only [nz])|refine wA6 ?_)<;>try refine wN0 ?_)|refine wT8 ?_|with_reducible intro Q' hQ'|(refine GC ?_ ?_<;>intro hc)|simp only [laq])
      first|refine cp_drwX fun Q' hQ'=>?_|refine cp_drawX ?_
      repeat' (first|((first|refine wA1 ?_|(refine GA ?_ ?_<;>intro hg)|(refine GV ?_;intros;simp only [nz])|refine wA6 ?_|refine wD1 ?_)<;>try refine wN0 ?_)|refine wT8 ?_|with_reducible intro Q' hQ'|(refine GC ?_ ?_<;>intro hc)|simp only [laq])
      repeat' (first|((first|refine wA1 ?_|(refine GA ?_ ?_<;>intro hg)|(refine GV ?_;intros;simp only [nz])|refine wA6 ?_)<;>try refine wN0 ?_)|refine wT8 ?_|with_reducible intro Q' hQ'|(refine GC ?_ ?_<;>intro hc)|simp only [laq])
      iterate 2 refine CP.SL ?_
      first|refine cp_drwX fun Q' hQ'=>?_|refine cp_drawX ?_
      repeat' (first|((first|refine wA1 ?_|(refine GA ?_ ?_<;>intro hg)|(refine GV ?_;intros;simp only [nz])|refine wA6 ?_|refine wD1 ?_)<;>try refine wN19 ?_)|refine wT8 ?_|with_reducible intro Q' hQ'|(refine GC ?_ ?_<;>intro hc)|simp only [laq])
      iterate 2 refine CP.SL ?_
      first|refine cp_drwX fun Q' hQ'=>?_|refine cp_drawX ?_
      repeat' (first|((first|refine wA1 ?_|(refine GA ?_ ?_<;>intro hg)|(refine GV ?_;intros;simp only [nz])|refine wA6 ?_|refine wD1 ?_)<;>try refine wN3 ?_)|refine wT8 ?_|with_reducible intro Q' hQ'|(refine GC ?_ ?_<;>intro hc)|simp only [laq])
      exact RA1
     ·have q2:(q.ten != 0)=true:=by simpa using h0
      have hh:hasR q.g.rts 8=false:=by
       cases h:hasR q.g.rts 8 with
       | false=>rfl
       | true=>exact absurd ⟨h0,h⟩ ht
      rw [hh] at h5;refine AC.E func174 ntmps174 ?_;intro X hρ hmks;iterate 2 refine CP.SL ?_
      repeat' (first|((first|refine wA1 ?_|(refine GA ?_ ?_<;>intro hg)|(refine GV ?_;intros;simp only [nz])|refine wA6 ?_)<;>try refine wN0 ?_)|refine wT8 ?_|with_reducible intro Q' hQ'|(refine GC ?_ ?_<;>intro hc)|simp only [laq])
      first|refine cp_drwX fun Q' hQ'=>?_|refine cp_drawX ?_
      repeat' (first|((first|refine wA1 ?_|(refine GA ?_ ?_<;>intro hg)|(refine GV ?_;intros;simp only [nz])|refine wA6 ?_|refine wD1 ?_)<;>try refine wN0 ?_)|refine wT8 ?_|with_reducible intro Q' hQ'|(refine GC ?_ ?_<;>intro hc)|simp only [laq])
      repeat' (first|((first|refine wA1 ?_|(refine GA ?_ ?_<;>intro hg)|(refine GV ?_;intros;simp only [nz])|refine wA6 ?_)<;>try refine wN0 ?_)|refine wT8 ?_|with_reducible intro Q' hQ'|(refine GC ?_ ?_<;>intro hc)|simp only [laq])
      iterate 2 refine CP.SL ?_
      first|refine cp_drwX fun Q' hQ'=>?_|refine cp_drawX ?_
      repeat' (first|((first|refine wA1 ?_|(refine GA ?_ ?_<;>intro hg)|(refine GV ?_;intros;simp only [nz])|refine wA6 ?_|refine wD1 ?_)<;>try refine wN19 ?_)|refine wT8 ?_|with_reducible intro Q' hQ'|(refine GC ?_ ?_<;>intro hc)|simp only [laq])
      iterate 2 refine CP.SL ?_
      first|refine cp_drwX fun Q' hQ'=>?_|refine cp_drawX ?_
      repeat' (first|((first|refine wA1 ?_|(refine GA ?_ ?_<;>intro hg)|(refine GV ?_;intros;simp only [nz])|refine wA6 ?_|refine wD1 ?_)<;>try refine wN3 ?_)|refine wT8 ?_|with_reducible intro Q' hQ'|(refine GC ?_ ?_<;>intro hc)|simp only [laq])
      exact RA1
