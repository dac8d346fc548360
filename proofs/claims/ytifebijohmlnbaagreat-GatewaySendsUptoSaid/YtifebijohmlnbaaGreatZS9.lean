/-
  Texts joined: Y8.
-/
import Derived.Test.YtifebijohmlnbaaGreatZS1
import Derived.Test.YtifebijohmlnbaaGreatZS2
import Derived.Test.YtifebijohmlnbaaGreatZS3
import Derived.Test.YtifebijohmlnbaaGreatZS4
import Derived.Test.YtifebijohmlnbaaGreatZS5
import Derived.Test.YtifebijohmlnbaaGreatZS6
import Derived.Test.YtifebijohmlnbaaGreatZS7
import Derived.Test.YtifebijohmlnbaaGreatZS8
namespace Go.Proofs.YtifebijohmlnbaaGreat
set_option linter.unusedVariables false
set_option linter.unusedSimpArgs false
open Go.RowKit
set_option maxRecDepth 100000
set_option maxHeartbeats 8000000
def rpN (n:Int):Rep:=⟨0,[],[],n,lk0⟩
def formN (n:Int):List UInt8:=intS 0 ++ putS 0 4 ++ intS 0 ++ intS n ++ intS 0 ++ intS 0 ++ [0] ++ intS 0 ++ intS 0 ++ intS 0 ++ intS 0 ++ z32 ++ z32
theorem formN_len (n:Int):(formN n).length=141:=by
 have hi (n:Int):(intS n).length=8:=putS_length _ _;simp only [formN,List.length_append,hi,putS_length,z32,List.length_replicate,List.length_cons,List.length_nil]
theorem prRpQ (n:Int) (s0 s1 s2 s3 s4 s5 s6 s7 s8 s9 s10 s11 s12 s13:Wst) (out:List UInt8)
 (m:AC Tryz.prog 128 [.ag (eRp (rpN n))] [] (fun v bs'=>v=B true∧bs'=[]))
 (h0:AC Tryz.prog 129 [] [] (fun v bs'=>v=.bp 0 0 0∧bs'=[wB s0]))
 (i1:AC Tryz.prog 130 [.bp 0 0 0,I 0] [wB s0] (fun v bs'=>v=.bp 0 0 0∧bs'=[wB s1]))
 (i2:AC Tryz.prog 131 [.bp 0 0 0,S []] [wB s1] (fun v bs'=>v=.bp 0 0 0∧bs'=[wB s2]))
 (i3:AC Tryz.prog 130 [.bp 0 0 0,I ((0:Nat):Int)] [wB s2] (fun v bs'=>v=.bp 0 0 0∧bs'=[wB s3]))
 (i4:AC Tryz.prog 130 [.bp 0 0 0,I n] [wB s3] (fun v bs'=>v=.bp 0 0 0∧bs'=[wB s4]))
 (i5:AC Tryz.prog 130 [.bp 0 0 0,I 0] [wB s4] (fun v bs'=>v=.bp 0 0 0∧bs'=[wB s5]))
 (i6:AC Tryz.prog 130 [.bp 0 0 0,I 0] [wB s5] (fun v bs'=>v=.bp 0 0 0∧bs'=[wB s6]))
 (i7:AC Tryz.prog 132 [.bp 0 0 0,U 0] [wB s6] (fun v bs'=>v=.bp 0 0 0∧bs'=[wB s7]))
 (i8:AC Tryz.prog 130 [.bp 0 0 0,I 0] [wB s7] (fun v bs'=>v=.bp 0 0 0∧bs'=[wB s8]))
 (i9:AC Tryz.prog 130 [.bp 0 0 0,I 0] [wB s8] (fun v bs'=>v=.bp 0 0 0∧bs'=[wB s9]))
 (j1:AC Tryz.prog 130 [.bp 0 0 0,I 0] [wB s9] (fun v bs'=>v=.bp 0 0 0∧bs'=[wB s10]))
 (j2:AC Tryz.prog 130 [.bp 0 0 0,I 0] [wB s10] (fun v bs'=>v=.bp 0 0 0∧bs'=[wB s11]))
 (j3:AC Tryz.prog 133 [.bp 0 0 0,tg z32] [wB s11] (fun v bs'=>v=.bp 0 0 0∧bs'=[wB s12]))
 (j4:AC Tryz.prog 133 [.bp 0 0 0,tg z32] [wB s12] (fun v bs'=>v=.bp 0 0 0∧bs'=[wB s13]))
 (j5:AC Tryz.prog 94 [.bp 0 0 0] [wB s13] (fun v bs'=>v=.tu [bs none out,I 0]∧bs'=[wD s13])) :
 AC Tryz.prog 70 [.ag (eRp (rpN n))] [] (fun v bs'=>v=.tu [bs none out,I 0]∧bs'=[]):=by
 refine AC.N Tryz.func70 Tryz.ntmps70 ?_;intro X hρ hmks;refine NX ?_;refine CP.SL ?_;refine CP.SL ?_;refine CP.SL ?_;refine CP.SL ?_
 repeat' (first|((first|refine wA1 ?_|(refine GA ?_;refine ⟨fun hg=>?_,fun hg=>?_⟩)|(refine GV ?_;intro c hnil;simp only [nz])|refine aC1 m ?_|refine aC5 h0 ?_|refine aC4 i1 ?_|refine aC4 i2 ?_|refine aC4 i3 ?_|refine wA2 ?_|refine wD4 ?_|refine dC1 m ?_|refine dC4 h0 ?_|refine dC3 i1 ?_|refine dC3 i2 ?_|refine dC3 i3 ?_)<;>(try refine NQ ?_))|refine wT7 ?_|with_reducible intro Q' hQ'|(refine GC ?_;refine ⟨fun hc=>?_,fun hc=>?_⟩)|simp only [la])
 refine cp_rounds 1 ?_
 repeat' (first|((first|refine wA1 ?_|(refine GA ?_;refine ⟨fun hg=>?_,fun hg=>?_⟩)|(refine GV ?_;intro c hnil;simp only [nz])|refine aC4 i4 ?_|refine aC4 i5 ?_|refine aC4 i6 ?_|refine aC4 i7 ?_|refine aC4 i8 ?_|refine aC4 i9 ?_|refine aC4 j1 ?_|refine aC4 j2 ?_|refine aC4 j3 ?_|refine aC4 j4 ?_|refine aC4 j5 ?_|refine wA2 ?_|refine wD4 ?_|refine dC3 i4 ?_|refine dC3 i5 ?_|refine dC3 i6 ?_|refine dC3 i7 ?_|refine dC3 i8 ?_|refine dC3 i9 ?_|refine dC3 j1 ?_|refine dC3 j2 ?_|refine dC3 j3 ?_|refine dC3 j4 ?_|refine dC3 j5 ?_)<;>(try refine NQ ?_))|refine wT7 ?_|with_reducible intro Q' hQ'|(refine GC ?_;refine ⟨fun hc=>?_,fun hc=>?_⟩)|simp only [la])
 (exact RetQ.A [] (by exact ⟨rfl,rfl⟩))
theorem prRp_ac (n:Int):AC Tryz.prog 70 [.ag (eRp (rpN n))] [] (fun v bs'=>v=.tu [bs none (formN n),I 0]∧bs'=[]):=by
 have hi (n:Int):(intS n).length=8:=putS_length _ _;have hz:z32.length=32:=rfl;have m:=mayRp_ac (rpN n) ⟨Nat.zero_le _,Nat.zero_le _,fun x hx=>by cases hx⟩;have a0:=wint_ac (false,[]) 0 (by show List.length _≤_;simp only [List.length_append,List.length_cons,List.length_nil,hi,hz,putS_length];omega);rw [haddS_ok (by simp only [List.length_append,List.length_cons,List.length_nil,hi,hz,putS_length];omega)] at a0;rw [List.nil_append] at a0;have a1:=wtext_ac (false,intS 0) [] (by show List.length _≤_;simp only [List.length_append,List.length_cons,List.length_nil,hi,hz,putS_length];omega) (by simp);rw [show ([]:List UInt8).length=0 from rfl,haddS_ok (by simp only [List.length_append,List.length_cons,List.length_nil,hi,hz,putS_length];omega),haddS_ok (by simp only [List.length_append,List.length_cons,List.length_nil,hi,hz,putS_length];omega),List.append_nil] at a1;have a2:=wint_ac (false,intS 0 ++ putS 0 4) ((0:Nat):Int) (by show List.length _≤_;simp only [List.length_append,List.length_cons,List.length_nil,hi,hz,putS_length];omega);rw [haddS_ok (by simp only [List.length_append,List.length_cons,List.length_nil,hi,hz,putS_length];omega)] at a2;have a3:=wint_ac (false,intS 0 ++ putS 0 4 ++ intS 0) n (by show List.length _≤_;simp only [List.length_append,List.length_cons,List.length_nil,hi,hz,putS_length];omega);rw [haddS_ok (by simp only [List.length_append,List.length_cons,List.length_nil,hi,hz,putS_length];omega)] at a3;have a4:=wint_ac (false,intS 0 ++ putS 0 4 ++ intS 0 ++ intS n) 0 (by show List.length _≤_;simp only [List.length_append,List.length_cons,List.length_nil,hi,hz,putS_length];omega);rw [haddS_ok (by simp only [List.length_append,List.length_cons,List.length_nil,hi,hz,putS_length];omega)] at a4;have a5:=wint_ac (false,intS 0 ++ putS 0 4 ++ intS 0 ++ intS n ++ intS 0) 0 (by show List.length _≤_;simp only [List.length_append,List.length_cons,List.length_nil,hi,hz,putS_length];omega);rw [haddS_ok (by simp only [List.length_append,List.length_cons,List.length_nil,hi,hz,putS_length];omega)] at a5;have a6:=wbyte_ac (false,intS 0 ++ putS 0 4 ++ intS 0 ++ intS n ++ intS 0 ++ intS 0) 0 (by show List.length _≤_;simp only [List.length_append,List.length_cons,List.length_nil,hi,hz,putS_length];omega);rw [haddS_ok (by simp only [List.length_append,List.length_cons,List.length_nil,hi,hz,putS_length];omega)] at a6;have a7:=wint_ac (false,intS 0 ++ putS 0 4 ++ intS 0 ++ intS n ++ intS 0 ++ intS 0 ++ [0]) 0 (by show List.length _≤_;simp only [List.length_append,List.length_cons,List.length_nil,hi,hz,putS_length];omega);rw [haddS_ok (by simp only [List.length_append,List.length_cons,List.length_nil,hi,hz,putS_length];omega)] at a7;have a8:=wint_ac (false,intS 0 ++ putS 0 4 ++ intS 0 ++ intS n ++ intS 0 ++ intS 0 ++ [0] ++ intS 0) 0 (by show List.length _≤_;simp only [List.length_append,List.length_cons,List.length_nil,hi,hz,putS_length];omega);rw [haddS_ok (by simp only [List.length_append,List.length_cons,List.length_nil,hi,hz,putS_length];omega)] at a8;have a9:=wint_ac (false,intS 0 ++ putS 0 4 ++ intS 0 ++ intS n ++ intS 0 ++ intS 0 ++ [0] ++ intS 0 ++ intS 0) 0 (by show List.length _≤_;simp only [List.length_append,List.length_cons,List.length_nil,hi,hz,putS_length];omega);rw [haddS_ok (by simp only [List.length_append,List.length_cons,List.length_nil,hi,hz,putS_length];omega)] at a9;have a10:=wint_ac (false,intS 0 ++ putS 0 4 ++ intS 0 ++ intS n ++ intS 0 ++ intS 0 ++ [0] ++ intS 0 ++ intS 0 ++ intS 0) 0 (by show List.length _≤_;simp only [List.length_append,List.length_cons,List.length_nil,hi,hz,putS_length];omega);rw [haddS_ok (by simp only [List.length_append,List.length_cons,List.length_nil,hi,hz,putS_length];omega)] at a10;have a11:=wtag_ac (false,intS 0 ++ putS 0 4 ++ intS 0 ++ intS n ++ intS 0 ++ intS 0 ++ [0] ++ intS 0 ++ intS 0 ++ intS 0 ++ intS 0) z32 (by show List.length _≤_;simp only [List.length_append,List.length_cons,List.length_nil,hi,hz,putS_length];omega) rfl;rw [haddS_ok (by simp only [List.length_append,List.length_cons,List.length_nil,hi,hz,putS_length];omega)] at a11;have a12:=wtag_ac (false,intS 0 ++ putS 0 4 ++ intS 0 ++ intS n ++ intS 0 ++ intS 0 ++ [0] ++ intS 0 ++ intS 0 ++ intS 0 ++ intS 0 ++ z32) z32 (by show List.length _≤_;simp only [List.length_append,List.length_cons,List.length_nil,hi,hz,putS_length];omega) rfl;rw [haddS_ok (by simp only [List.length_append,List.length_cons,List.length_nil,hi,hz,putS_length];omega)] at a12;have d:=done_ac (formN n) (by rw [formN_len];omega);exact prRpQ n _ _ _ _ _ _ _ _ _ _ _ _ _ _ _ m wnew_ac a0 a1 a2 a3 a4 a5 a6 a7 a8 a9 a10 a11 a12 d
end Go.Proofs.YtifebijohmlnbaaGreat
