/- Parts. -/
import Derived.Test.YtnjllcnjcpfbhaaGreatZS31
namespace Go.Proofs.YtnjllcnjcpfbhaaGreat
set_option linter.unusedVariables false
set_option linter.unusedSimpArgs false
open Go.RowKit Go.Proofs.Tryz
set_option maxRecDepth 100000
set_option maxHeartbeats 8000000
abbrev opsC:List AV:=[U 0,zfn,U 1,fnA0 169,U 2,fnA0 170,U 2,fnA0 170,U 2,fnA0 170,U 4,fnA0 171,U 8,fnA0 172,U 8,fnA0 173,U 8,fnA0 174,U 8,fnA0 175,U 8,fnA0 176]
theorem ops_ac:AF 112 [] (.ag opsC):=by
 refine AC.E func112 ntmps112 ?_;intros
 repeat' (first|((first|refine wA1 ?_|(refine GA ?_ ?_<;>intro hg)|(refine GV ?_;intros;simp only [nz])|refine wA6 ?_)<;>try refine NQ ?_)|refine wT3 ?_|with_reducible intro Q' hQ'|(refine GC ?_ ?_<;>intro hc)|simp only [laq])
 exact RetQ.A [] (by exact ⟨rfl,rfl⟩) (hc:=by exact ClsR.one ClsV.id)
def needS (op:UInt8):UInt8:=match op.toNat with
 | 1=>1
 | 2=>2
 | 3=>2
 | 4=>2
 | 5=>4
 | 6=>8
 | 7=>8
 | 8=>8
 | 9=>8
 | 10=>8
 | _=>0
theorem wA22 {G G':Prop} (K:G') (h:G'->G:=by (intro kz;(with_reducible apply AP.k_any);exact AP.IA kz)):G:=h K
theorem needs_ac (op:UInt8):AF 110 [U op] (U (needS op)):=by
 by_cases h:10 < op.toNat
 ·have e:needS op=0:=by
   unfold needS;split<;>first|omega|rfl
  rw [e];have q1:decide ((10:Int) < (op.toNat:Int))=true:=decide_eq_true (by omega);refine AC.E func110 ntmps110 ?_;intros
  repeat' (first|((first|refine wA1 ?_|(refine GA ?_ ?_<;>intro hg)|(refine GV ?_;intros;simp only [nz])|refine wA6 ?_)<;>try refine wN0 ?_)|refine wT3 ?_|with_reducible intro Q' hQ'|(refine GC ?_ ?_<;>intro hc)|simp only [laq])
  exact RA0
 ·have ho:op.toNat=0\/op.toNat=1\/op.toNat=2\/op.toNat=3\/op.toNat=4\/op.toNat=5\/op.toNat=6\/op.toNat=7\/op.toNat=8\/op.toNat=9\/op.toNat=10:=by omega
  have h1:=ops_ac;clear h;rcases ho with ho|ho|ho|ho|ho|ho|ho|ho|ho|ho|ho
  ·obtain rfl:op=0:=UInt8.toNat_inj.1 ho;have q1:decide ((10:Int) < ((UInt8.toNat 0:Nat):Int))=false:=rfl;refine AC.E func110 ntmps110 ?_;intros
   repeat' (first|((first|refine wA1 ?_|(refine GA ?_ ?_<;>intro hg)|(refine GV ?_;intros;simp only [nz])|refine wA22 ?_|refine wA6 ?_)<;>try refine wN0 ?_)|refine wT3 ?_|with_reducible intro Q' hQ'|(refine GC ?_ ?_<;>intro hc)|simp only [laq])
   exact RA0
  ·obtain rfl:op=1:=UInt8.toNat_inj.1 ho;have q1:decide ((10:Int) < ((UInt8.toNat 1:Nat):Int))=false:=rfl;refine AC.E func110 ntmps110 ?_;intros
   repeat' (first|((first|refine wA1 ?_|(refine GA ?_ ?_<;>intro hg)|(refine GV ?_;intros;simp only [nz])|refine wA22 ?_|refine wA6 ?_)<;>try refine wN0 ?_)|refine wT3 ?_|with_reducible intro Q' hQ'|(refine GC ?_ ?_<;>intro hc)|simp only [laq])
   exact RA0
  ·obtain rfl:op=2:=UInt8.toNat_inj.1 ho;have q1:decide ((10:Int) < ((UInt8.toNat 2:Nat):Int))=false:=rfl;refine AC.E func110 ntmps110 ?_;intros
   repeat' (first|((first|refine wA1 ?_|(refine GA ?_ ?_<;>intro hg)|(refine GV ?_;intros;simp only [nz])|refine wA22 ?_|refine wA6 ?_)<;>try refine wN0 ?_)|refine wT3 ?_|with_reducible intro Q' hQ'|(refine GC ?_ ?_<;>intro hc)|simp only [laq])
   exact RA0
  ·obtain rfl:op=3:=UInt8.toNat_inj.1 ho;have q1:decide ((10:Int) < ((UInt8.toNat 3:Nat):Int))=false:=rfl;refine AC.E func110 ntmps110 ?_;intros
   repeat' (first|((first|refine wA1 ?_|(refine GA ?_ ?_<;>intro hg)|(refine GV ?_;intros;simp only [nz])|refine wA22 ?_|refine wA6 ?_)<;>try refine wN0 ?_)|refine wT3 ?_|with_reducible intro Q' hQ'|(refine GC ?_ ?_<;>intro hc)|simp only [laq])
   exact RA0
  ·obtain rfl:op=4:=UInt8.toNat_inj.1 ho;have q1:decide ((10:Int) < ((UInt8.toNat 4:Nat):Int))=false:=rfl;refine AC.E func110 ntmps110 ?_;intros
   repeat' (first|((first|refine wA1 ?_|(refine GA ?_ ?_<;>intro hg)|(refine GV ?_;intros;simp only [nz])|refine wA22 ?_|refine wA6 ?_)<;>try refine wN0 ?_)|refine wT3 ?_|with_reducible intro Q' hQ'|(refine GC ?_ ?_<;>intro hc)|simp only [laq])
   exact RA0
  ·obtain rfl:op=5:=UInt8.toNat_inj.1 ho;have q1:decide ((10:Int) < ((UInt8.toNat 5:Nat):Int))=false:=rfl;refine AC.E func110 ntmps110 ?_;intros
   repeat' (first|((first|refine wA1 ?_|(refine GA ?_ ?_<;>intro hg)|(refine GV ?_;intros;simp only [nz])|refine wA22 ?_|refine wA6 ?_)<;>try refine wN0 ?_)|refine wT3 ?_|with_reducible intro Q' hQ'|(refine GC ?_ ?_<;>intro hc)|simp only [laq])
   exact RA0
  ·obtain rfl:op=6:=UInt8.toNat_inj.1 ho;have q1:decide ((10:Int) < ((UInt8.toNat 6:Nat):Int))=false:=rfl;refine AC.E func110 ntmps110 ?_;intros
   repeat' (first|((first|refine wA1 ?_|(refine GA ?_ ?_<;>intro hg)|(refine GV ?_;intros;simp only [nz])|refine wA22 ?_|refine wA6 ?_)<;>try refine wN0 ?_)|refine wT3 ?_|with_reducible intro Q' hQ'|(refine GC ?_ ?_<;>intro hc)|simp only [laq])
   exact RA0
  ·obtain rfl:op=7:=UInt8.toNat_inj.1 ho;have q1:decide ((10:Int) < ((UInt8.toNat 7:Nat):Int))=false:=rfl;refine AC.E func110 ntmps110 ?_;intros
   repeat' (first|((first|refine wA1 ?_|(refine GA ?_ ?_<;>intro hg)|(refine GV ?_;intros;simp only [nz])|refine wA22 ?_|refine wA6 ?_)<;>try refine wN0 ?_)|refine wT3 ?_|with_reducible intro Q' hQ'|(refine GC ?_ ?_<;>intro hc)|simp only [laq])
   exact RA0
  ·obtain rfl:op=8:=UInt8.toNat_inj.1 ho;have q1:decide ((10:Int) < ((UInt8.toNat 8:Nat):Int))=false:=rfl;refine AC.E func110 ntmps110 ?_;intros
   repeat' (first|((first|refine wA1 ?_|(refine GA ?_ ?_<;>intro hg)|(refine GV ?_;intros;simp only [nz])|refine wA22 ?_|refine wA6 ?_)<;>try refine wN0 ?_)|refine wT3 ?_|with_reducible intro Q' hQ'|(refine GC ?_ ?_<;>intro hc)|simp only [laq])
   exact RA0
  ·obtain rfl:op=9:=UInt8.toNat_inj.1 ho;have q1:decide ((10:Int) < ((UInt8.toNat 9:Nat):Int))=false:=rfl;refine AC.E func110 ntmps110 ?_;intros
   repeat' (first|((first|refine wA1 ?_|(refine GA ?_ ?_<;>intro hg)|(refine GV ?_;intros;simp only [nz])|refine wA22 ?_|refine wA6 ?_)<;>try refine wN0 ?_)|refine wT3 ?_|with_reducible intro Q' hQ'|(refine GC ?_ ?_<;>intro hc)|simp only [laq])
   exact RA0
  ·obtain rfl:op=10:=UInt8.toNat_inj.1 ho;have q1:decide ((10:Int) < ((UInt8.toNat 10:Nat):Int))=false:=rfl;refine AC.E func110 ntmps110 ?_;intros
   repeat' (first|((first|refine wA1 ?_|(refine GA ?_ ?_<;>intro hg)|(refine GV ?_;intros;simp only [nz])|refine wA22 ?_|refine wA6 ?_)<;>try refine wN0 ?_)|refine wT3 ?_|with_reducible intro Q' hQ'|(refine GC ?_ ?_<;>intro hc)|simp only [laq])
   exact RA0
