/- Parts. -/
import Derived.Test.YtnjllcnjcpfbhaaGreatZS5
namespace Go.Proofs.YtnjllcnjcpfbhaaGreat
set_option linter.unusedVariables false
set_option linter.unusedSimpArgs false
open Go.RowKit Go.Proofs.Tryz
set_option maxRecDepth 100000
set_option maxHeartbeats 8000000
abbrev tRd:TypeId:=141
abbrev rB (st:Int×List UInt8):Bx:=.c tRd [B true,bs none st.2,I st.1]
def newR (b:List UInt8):Int×List UInt8:=if 65536 < b.length then (3,[]) else (0,b)
theorem rnew_ac (b:List UInt8) (hb:b.length<=100000000):AC prog 33 [bs none b] [] (fun v bs'=>v=.bp 0 0 0/\bs'=[rB (newR b)]):=by
 by_cases h:65536 < b.length
 ·have e:newR b=(3,[]):=by simp [newR,h]
  rw [e];refine AC.E func33 ntmps33 ?_;intros
  repeat' (first|((first|refine wA2 ?_)<;>try refine NX ?_)|refine wT2 ?_|with_reducible intro Q' hQ'|(refine GC ?_ ?_<;>intro hc)|simp only [laq])
  ·(exact RetQ.A [(0,1)] (by exact ⟨rfl,rfl⟩))
  ·exfalso;simp at *;omega
 ·have e:newR b=(0,b):=by simp [newR,h]
  have hcat:=(wcat_ac [b] (by simp) (by simp;omega)).ro (r2:=bs none b) (by simp [AV.ro,ro_B]);rw [e];refine AC.E func33 ntmps33 ?_;intros
  repeat' (first|((first|refine wA4 ?_|refine aC1 hcat ?_|((with_reducible apply AP.k_any);refine AP.gh (gh_fz (b:=0) (u:=1) rfl rfl (by (repeat' (first|exact FzC.nil|apply FzC.cons|exact FzV.hd|apply FzV.ag|exact FzV.same))) (by (repeat' (first|exact FzB.nil|apply FzB.c|apply FzB.same|exact FzC.nil|apply FzC.cons|exact FzV.hd|apply FzV.ag|exact FzV.same)))) ?_;first|simp only [roE,roC,AV.ro,ro_B,ro_M,ro_E]|simp only [roE,roC,AV.ro,ro_B]))<;>try refine NX ?_)|refine wT2 ?_|with_reducible intro Q' hQ'|(refine GC ?_ ?_<;>intro hc)|simp only [laq])
  ·exfalso;simp at *;omega
  ·(exact RetQ.A [(0,2)] (by exact ⟨rfl,rfl⟩))
theorem fine_ac (st:Int×List UInt8):AC prog 132 [.bp 0 0 0] [rB st] (fun v bs'=>v=B (st.1 == 0)/\bs'=[rB st]):=by
 refine AC.E func132 ntmps132 ?_;intros
 repeat' (first|((first|refine wA3 ?_|(refine GA ?_ ?_<;>intro hg)|(refine GV ?_;intros;simp only [nz]))<;>try refine NX ?_)|refine wT2 ?_|with_reducible intro Q' hQ'|(refine GC ?_ ?_<;>intro hc)|simp only [laq])
 exact RA1
theorem rbad_ac (st:Int×List UInt8):AC prog 133 [.bp 0 0 0] [rB st] (fun v bs'=>v=.tu []/\bs'=[rB (40,[])]):=by
 refine AC.E func133 ntmps133 ?_;intros
 repeat' (first|((first|refine wA2 ?_)<;>try refine NX ?_)|refine wT2 ?_|with_reducible intro Q' hQ'|(refine GC ?_ ?_<;>intro hc)|simp only [laq])
 exact RA1
def takeS {α:Type} (z:α) (f:List UInt8->α×Bool) (n:Int) (st:Int×List UInt8):α×(Int×List UInt8):=
 if st.1≠0 then (z,st) else if n < 0\/(st.2.length:Int) < n then (z,(40,[]))
 else if (f (st.2.take n.toNat)).2=true then ((f (st.2.take n.toNat)).1,(0,st.2.drop n.toNat)) else (z,(40,[]))
theorem take1_ac (f:Nat) (g:List UInt8->UInt8×Bool) (n:Int) (st:Int×List UInt8) (hst:st.2.length<=100000000) (hf:∀ b:List UInt8,b.length=n.toNat->b.length<=st.2.length->AF f [bs none b] (.tu [U (g b).1,B (g b).2])) :
 AC prog 75 [.bp 0 0 0,I n,.fn f []] [rB st] (fun v bs'=>v=U (takeS (0:UInt8) g n st).1/\bs'=[rB (takeS (0:UInt8) g n st).2]):=by
 obtain ⟨e,b⟩:=st
 by_cases he:e=0
 ·subst he
  by_cases hn:n < 0\/(b.length:Int) < n
  ·have ht:takeS (0:UInt8) g n (0,b)=((0:UInt8),(40,[])):=by simp only [takeS,hn];simp
   rw [ht];refine AC.E func75 ntmps75 ?_;intros
   repeat' (first|((first|refine wA3 ?_|(refine GA ?_ ?_<;>intro hg)|refine aC2 (fine_ac (0,b)) ?_|refine aC2 (rbad_ac (0,b)) ?_)<;>try refine NX ?_)|refine wT2 ?_|with_reducible intro Q' hQ'|(refine GC ?_ ?_<;>intro hc)|simp only [laq])
   all_goals first
    | (exfalso;simp at *;done)
    | (exfalso;simp at *;omega)
    | exact RA1
  ·have hl:(b.take n.toNat).length=n.toNat:=by simp;omega
   have hf':=hf (b.take n.toNat) hl (by rw [List.length_take];exact Nat.min_le_right _ _);have htk:List.take (b.length - n.toNat) (List.drop n.toNat b)=List.drop n.toNat b:=List.take_of_length_le (by simp);have hn0:0<=n:=by omega
   have hn1:n<=(b.length:Int):=by omega
   have hm:n<=((b.map eB).length:Int):=by simp;omega
   have ht:takeS (0:UInt8) g n (0,b)=if (g (b.take n.toNat)).2=true then ((g (b.take n.toNat)).1,(0,b.drop n.toNat)) else ((0:UInt8),(40,[])):=by simp only [takeS,hn];simp
   rw [ht]
   cases hg2:(g (b.take n.toNat)).2 with
   | true=>
    rw [hg2] at hf';simp only [if_true];refine AC.E func75 ntmps75 ?_;intros
    repeat' (first|((first|refine wA3 ?_|(refine GA ?_ ?_<;>intro hg)|refine aC2 (fine_ac (0,b)) ?_|((with_reducible apply AP.k_any);refine ap_callX rfl rfl (fn:=f) rfl hf' (by (repeat' (first|exact PasC.nil|apply PasC.nil|apply PasC.cons|apply PasV.leaf rfl|apply PasV.nl|apply PasV.bp rfl|apply PasV.vp rfl|apply PasV.pz|exact VsM.nil|apply VsM.cons rfl|apply PasV.lend rfl rfl rfl|apply PasV.lend rfl rfl (ro_B _)|apply PasV.lend rfl rfl (ro_M _)|apply PasV.lend rfl rfl (ro_E _ _)|apply PasV.lend rfl rfl (ro_I _)|apply PasV.lend rfl rfl (by (simp only [rn,List.map_cons,List.map_nil];first|done|rfl))|apply PasV.lend rfl rfl (by assumption)|apply PasV.lsb rfl rfl rfl rfl (by (first|assumption|exact rfl))|apply PasV.mv rfl|apply PasV.hk rfl|apply PasV.ag|apply PasV.fn|exact PasV.fs|apply PasV.any|exact rfl))) rfl rfl ?_)|refine aC2 (rbad_ac (0,b)) ?_)<;>try refine NX ?_)|refine wT2 ?_|with_reducible intro Q' hQ'|(refine GC ?_ ?_<;>intro hc)|simp only [laq])
    all_goals first
     | (exfalso;simp at *;done)
     | (exfalso;simp at *;omega)
     | (simp only [htk]
        exact RA1)
   | false=>
    rw [hg2] at hf';simp only [Bool.false_eq_true,if_false];refine AC.E func75 ntmps75 ?_;intros
    repeat' (first|((first|refine wA3 ?_|(refine GA ?_ ?_<;>intro hg)|refine aC2 (fine_ac (0,b)) ?_|((with_reducible apply AP.k_any);refine ap_callX rfl rfl (fn:=f) rfl hf' (by (repeat' (first|exact PasC.nil|apply PasC.nil|apply PasC.cons|apply PasV.leaf rfl|apply PasV.nl|apply PasV.bp rfl|apply PasV.vp rfl|apply PasV.pz|exact VsM.nil|apply VsM.cons rfl|apply PasV.lend rfl rfl rfl|apply PasV.lend rfl rfl (ro_B _)|apply PasV.lend rfl rfl (ro_M _)|apply PasV.lend rfl rfl (ro_E _ _)|apply PasV.lend rfl rfl (ro_I _)|apply PasV.lend rfl rfl (by (simp only [rn,List.map_cons,List.map_nil];first|done|rfl))|apply PasV.lend rfl rfl (by assumption)|apply PasV.lsb rfl rfl rfl rfl (by (first|assumption|exact rfl))|apply PasV.mv rfl|apply PasV.hk rfl|apply PasV.ag|apply PasV.fn|exact PasV.fs|apply PasV.any|exact rfl))) rfl rfl ?_)|refine aC2 (rbad_ac (0,b)) ?_)<;>try refine NX ?_)|refine wT2 ?_|with_reducible intro Q' hQ'|(refine GC ?_ ?_<;>intro hc)|simp only [laq])
    all_goals first
     | (exfalso;simp at *;done)
     | (exfalso;simp at *;omega)
     | exact RA1
 ·have ht:takeS (0:UInt8) g n (e,b)=((0:UInt8),(e,b)):=by simp [takeS,he]
  have hb:((e:Int) == 0)=false:=by simp [he]
  rw [ht];refine AC.E func75 ntmps75 ?_;intros
  repeat' (first|((first|refine wA3 ?_|(refine GA ?_ ?_<;>intro hg)|refine aC2 (fine_ac (e,b)) ?_)<;>try refine NX ?_)|refine wT2 ?_|with_reducible intro Q' hQ'|(refine GC ?_ ?_<;>intro hc)|simp only [laq])
  all_goals first
   | (exfalso;simp at *;done)
   | (exfalso;simp at *;omega)
   | exact RA1
theorem take3_ac (f:Nat) (g:List UInt8->Int×Bool) (n:Int) (st:Int×List UInt8) (hst:st.2.length<=100000000) (hf:∀ b:List UInt8,b.length=n.toNat->b.length<=st.2.length->AF f [bs none b] (.tu [I (g b).1,B (g b).2])) :
 AC prog 77 [.bp 0 0 0,I n,.fn f []] [rB st] (fun v bs'=>v=I (takeS (0:Int) g n st).1/\bs'=[rB (takeS (0:Int) g n st).2]):=by
 obtain ⟨e,b⟩:=st
 by_cases he:e=0
 ·subst he
  by_cases hn:n < 0\/(b.length:Int) < n
  ·have ht:takeS (0:Int) g n (0,b)=((0:Int),(40,[])):=by simp only [takeS,hn];simp
   rw [ht];refine AC.E func77 ntmps77 ?_;intros
   repeat' (first|((first|refine wA3 ?_|(refine GA ?_ ?_<;>intro hg)|refine aC2 (fine_ac (0,b)) ?_|refine aC2 (rbad_ac (0,b)) ?_)<;>try refine NX ?_)|refine wT2 ?_|with_reducible intro Q' hQ'|(refine GC ?_ ?_<;>intro hc)|simp only [laq])
   all_goals first
    | (exfalso;simp at *;done)
    | (exfalso;simp at *;omega)
    | exact RA1
  ·have hl:(b.take n.toNat).length=n.toNat:=by simp;omega
   have hf':=hf (b.take n.toNat) hl (by rw [List.length_take];exact Nat.min_le_right _ _);have htk:List.take (b.length - n.toNat) (List.drop n.toNat b)=List.drop n.toNat b:=List.take_of_length_le (by simp);have hn0:0<=n:=by omega
   have hn1:n<=(b.length:Int):=by omega
   have hm:n<=((b.map eB).length:Int):=by simp;omega
   have ht:takeS (0:Int) g n (0,b)=if (g (b.take n.toNat)).2=true then ((g (b.take n.toNat)).1,(0,b.drop n.toNat)) else ((0:Int),(40,[])):=by simp only [takeS,hn];simp
   rw [ht]
   cases hg2:(g (b.take n.toNat)).2 with
   | true=>
    rw [hg2] at hf';simp only [if_true];refine AC.E func77 ntmps77 ?_;intros
    repeat' (first|((first|refine wA3 ?_|(refine GA ?_ ?_<;>intro hg)|refine aC2 (fine_ac (0,b)) ?_|((with_reducible apply AP.k_any);refine ap_callX rfl rfl (fn:=f) rfl hf' (by (repeat' (first|exact PasC.nil|apply PasC.nil|apply PasC.cons|apply PasV.leaf rfl|apply PasV.nl|apply PasV.bp rfl|apply PasV.vp rfl|apply PasV.pz|exact VsM.nil|apply VsM.cons rfl|apply PasV.lend rfl rfl rfl|apply PasV.lend rfl rfl (ro_B _)|apply PasV.lend rfl rfl (ro_M _)|apply PasV.lend rfl rfl (ro_E _ _)|apply PasV.lend rfl rfl (ro_I _)|apply PasV.lend rfl rfl (by (simp only [rn,List.map_cons,List.map_nil];first|done|rfl))|apply PasV.lend rfl rfl (by assumption)|apply PasV.lsb rfl rfl rfl rfl (by (first|assumption|exact rfl))|apply PasV.mv rfl|apply PasV.hk rfl|apply PasV.ag|apply PasV.fn|exact PasV.fs|apply PasV.any|exact rfl))) rfl rfl ?_)|refine aC2 (rbad_ac (0,b)) ?_)<;>try refine NX ?_)|refine wT2 ?_|with_reducible intro Q' hQ'|(refine GC ?_ ?_<;>intro hc)|simp only [laq])
    all_goals first
     | (exfalso;simp at *;done)
     | (exfalso;simp at *;omega)
     | (simp only [htk]
        exact RA1)
   | false=>
    rw [hg2] at hf';simp only [Bool.false_eq_true,if_false];refine AC.E func77 ntmps77 ?_;intros
    repeat' (first|((first|refine wA3 ?_|(refine GA ?_ ?_<;>intro hg)|refine aC2 (fine_ac (0,b)) ?_|((with_reducible apply AP.k_any);refine ap_callX rfl rfl (fn:=f) rfl hf' (by (repeat' (first|exact PasC.nil|apply PasC.nil|apply PasC.cons|apply PasV.leaf rfl|apply PasV.nl|apply PasV.bp rfl|apply PasV.vp rfl|apply PasV.pz|exact VsM.nil|apply VsM.cons rfl|apply PasV.lend rfl rfl rfl|apply PasV.lend rfl rfl (ro_B _)|apply PasV.lend rfl rfl (ro_M _)|apply PasV.lend rfl rfl (ro_E _ _)|apply PasV.lend rfl rfl (ro_I _)|apply PasV.lend rfl rfl (by (simp only [rn,List.map_cons,List.map_nil];first|done|rfl))|apply PasV.lend rfl rfl (by assumption)|apply PasV.lsb rfl rfl rfl rfl (by (first|assumption|exact rfl))|apply PasV.mv rfl|apply PasV.hk rfl|apply PasV.ag|apply PasV.fn|exact PasV.fs|apply PasV.any|exact rfl))) rfl rfl ?_)|refine aC2 (rbad_ac (0,b)) ?_)<;>try refine NX ?_)|refine wT2 ?_|with_reducible intro Q' hQ'|(refine GC ?_ ?_<;>intro hc)|simp only [laq])
    all_goals first
     | (exfalso;simp at *;done)
     | (exfalso;simp at *;omega)
     | exact RA1
 ·have ht:takeS (0:Int) g n (e,b)=((0:Int),(e,b)):=by simp [takeS,he]
  have hb:((e:Int) == 0)=false:=by simp [he]
  rw [ht];refine AC.E func77 ntmps77 ?_;intros
  repeat' (first|((first|refine wA3 ?_|(refine GA ?_ ?_<;>intro hg)|refine aC2 (fine_ac (e,b)) ?_)<;>try refine NX ?_)|refine wT2 ?_|with_reducible intro Q' hQ'|(refine GC ?_ ?_<;>intro hc)|simp only [laq])
  all_goals first
   | (exfalso;simp at *;done)
   | (exfalso;simp at *;omega)
   | exact RA1
theorem take4_ac (f:Nat) (g:List UInt8->List UInt8×Bool) (n:Int) (st:Int×List UInt8) (hst:st.2.length<=100000000) (hf:∀ b:List UInt8,b.length=n.toNat->b.length<=st.2.length->AF f [bs none b] (.tu [bs none (g b).1,B (g b).2])) :
 AC prog 80 [.bp 0 0 0,I n,.fn f []] [rB st] (fun v bs'=>v=bs none (takeS ([]:List UInt8) g n st).1/\bs'=[rB (takeS ([]:List UInt8) g n st).2]):=by
 obtain ⟨e,b⟩:=st
 by_cases he:e=0
 ·subst he
  by_cases hn:n < 0\/(b.length:Int) < n
  ·have ht:takeS ([]:List UInt8) g n (0,b)=(([]:List UInt8),(40,[])):=by simp only [takeS,hn];simp
   rw [ht];refine AC.E func80 ntmps80 ?_;intros
   repeat' (first|((first|refine wA3 ?_|(refine GA ?_ ?_<;>intro hg)|refine aC2 (fine_ac (0,b)) ?_|refine aC2 (rbad_ac (0,b)) ?_)<;>try refine NX ?_)|refine wT2 ?_|with_reducible intro Q' hQ'|(refine GC ?_ ?_<;>intro hc)|simp only [laq])
   all_goals first
    | (exfalso;simp at *;done)
    | (exfalso;simp at *;omega)
    | exact RA1
  ·have hl:(b.take n.toNat).length=n.toNat:=by simp;omega
   have hf':=hf (b.take n.toNat) hl (by rw [List.length_take];exact Nat.min_le_right _ _);have htk:List.take (b.length - n.toNat) (List.drop n.toNat b)=List.drop n.toNat b:=List.take_of_length_le (by simp);have hn0:0<=n:=by omega
   have hn1:n<=(b.length:Int):=by omega
   have hm:n<=((b.map eB).length:Int):=by simp;omega
   have ht:takeS ([]:List UInt8) g n (0,b)=if (g (b.take n.toNat)).2=true then ((g (b.take n.toNat)).1,(0,b.drop n.toNat)) else (([]:List UInt8),(40,[])):=by simp only [takeS,hn];simp
   rw [ht]
   cases hg2:(g (b.take n.toNat)).2 with
   | true=>
    rw [hg2] at hf';simp only [if_true];refine AC.E func80 ntmps80 ?_;intros
    repeat' (first|((first|refine wA3 ?_|(refine GA ?_ ?_<;>intro hg)|refine aC2 (fine_ac (0,b)) ?_|((with_reducible apply AP.k_any);refine ap_callX rfl rfl (fn:=f) rfl hf' (by (repeat' (first|exact PasC.nil|apply PasC.nil|apply PasC.cons|apply PasV.leaf rfl|apply PasV.nl|apply PasV.bp rfl|apply PasV.vp rfl|apply PasV.pz|exact VsM.nil|apply VsM.cons rfl|apply PasV.lend rfl rfl rfl|apply PasV.lend rfl rfl (ro_B _)|apply PasV.lend rfl rfl (ro_M _)|apply PasV.lend rfl rfl (ro_E _ _)|apply PasV.lend rfl rfl (ro_I _)|apply PasV.lend rfl rfl (by (simp only [rn,List.map_cons,List.map_nil];first|done|rfl))|apply PasV.lend rfl rfl (by assumption)|apply PasV.lsb rfl rfl rfl rfl (by (first|assumption|exact rfl))|apply PasV.mv rfl|apply PasV.hk rfl|apply PasV.ag|apply PasV.fn|exact PasV.fs|apply PasV.any|exact rfl))) rfl rfl ?_)|refine aC2 (rbad_ac (0,b)) ?_)<;>try refine NX ?_)|refine wT2 ?_|with_reducible intro Q' hQ'|(refine GC ?_ ?_<;>intro hc)|simp only [laq])
    all_goals first
     | (exfalso;simp at *;done)
     | (exfalso;simp at *;omega)
     | (simp only [htk]
        exact RA1)
   | false=>
    rw [hg2] at hf';simp only [Bool.false_eq_true,if_false];refine AC.E func80 ntmps80 ?_;intros
    repeat' (first|((first|refine wA3 ?_|(refine GA ?_ ?_<;>intro hg)|refine aC2 (fine_ac (0,b)) ?_|((with_reducible apply AP.k_any);refine ap_callX rfl rfl (fn:=f) rfl hf' (by (repeat' (first|exact PasC.nil|apply PasC.nil|apply PasC.cons|apply PasV.leaf rfl|apply PasV.nl|apply PasV.bp rfl|apply PasV.vp rfl|apply PasV.pz|exact VsM.nil|apply VsM.cons rfl|apply PasV.lend rfl rfl rfl|apply PasV.lend rfl rfl (ro_B _)|apply PasV.lend rfl rfl (ro_M _)|apply PasV.lend rfl rfl (ro_E _ _)|apply PasV.lend rfl rfl (ro_I _)|apply PasV.lend rfl rfl (by (simp only [rn,List.map_cons,List.map_nil];first|done|rfl))|apply PasV.lend rfl rfl (by assumption)|apply PasV.lsb rfl rfl rfl rfl (by (first|assumption|exact rfl))|apply PasV.mv rfl|apply PasV.hk rfl|apply PasV.ag|apply PasV.fn|exact PasV.fs|apply PasV.any|exact rfl))) rfl rfl ?_)|refine aC2 (rbad_ac (0,b)) ?_)<;>try refine NX ?_)|refine wT2 ?_|with_reducible intro Q' hQ'|(refine GC ?_ ?_<;>intro hc)|simp only [laq])
    all_goals first
     | (exfalso;simp at *;done)
     | (exfalso;simp at *;omega)
     | exact RA1
 ·have ht:takeS ([]:List UInt8) g n (e,b)=(([]:List UInt8),(e,b)):=by simp [takeS,he]
  have hb:((e:Int) == 0)=false:=by simp [he]
  rw [ht];refine AC.E func80 ntmps80 ?_;intros
  repeat' (first|((first|refine wA3 ?_|(refine GA ?_ ?_<;>intro hg)|refine aC2 (fine_ac (e,b)) ?_)<;>try refine NX ?_)|refine wT2 ?_|with_reducible intro Q' hQ'|(refine GC ?_ ?_<;>intro hc)|simp only [laq])
  all_goals first
   | (exfalso;simp at *;done)
   | (exfalso;simp at *;omega)
   | exact RA1
