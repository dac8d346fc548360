/- Parts. -/
import Derived.Test.YtnjllcnjcpfbhaaGreatZS50
namespace Go.Proofs.YtnjllcnjcpfbhaaGreat
set_option linter.unusedVariables false
set_option linter.unusedSimpArgs false
open Go.RowKit Go.Proofs.Tryz
set_option maxRecDepth 100000
set_option maxHeartbeats 8000000
theorem stright_ac (root:List UInt8) (hr:root.length<=1000000000) (l:List CallR) (hl:l.length<=1000000000) (hc:∀ c∈l,c.small) (haw:AF 8 [] (B true)):AF 4 [bs none root,.sl none 19 (l.map eCall)] (B true):=by
 have h1:=run_ac root hr l hl hc
 cases hok:runOk root l with
 | false=>
  rw [hok] at h1;refine AC.E func4 ntmps4 ?_;intros
  repeat' (first|((first|refine wA1 ?_|(refine GA ?_ ?_<;>intro hg)|(refine GV ?_;intros;simp only [nz])|refine wA6 ?_|refine wD1 ?_)<;>try refine NQ ?_)|refine wT6 ?_|with_reducible intro Q' hQ'|(refine GC ?_ ?_<;>intro hc)|simp only [laq])
  exact RA0
 | true=>
 rw [hok] at h1;have hlim:=run_lim hok;have hX:runX root l=allS root l l.length:=by unfold runX;rw [if_pos hok]
 rw [hX] at h1;have hlx:=allS_len root l l.length;have hrow:=fun (i:Nat) (h:i<=l.length)=>allS_at (root:=root) (l:=l) h
 generalize allS root l l.length=XS at *;generalize runY root l=YS at *;have haw':True->_:=fun _=>haw
 clear haw;refine AC.E func4 ntmps4 ?_;intros
 repeat' (first|((first|refine wA1 ?_|(refine GA ?_ ?_<;>intro hg)|(refine GV ?_;intros;simp only [nz])|refine wA6 ?_|refine wD1 ?_)<;>try refine NQ ?_)|refine wT6 ?_|with_reducible intro Q' hQ'|(refine GC ?_ ?_<;>intro hc)|simp only [laq])
 clear h1;iterate 5 refine CP.SL ?_
 refine cp_loopS [4,8,9,10,11,12,13,14,15,16,17,18,19,20,21,22,23,24,35,36,37,38,39,40,41,42,43,44,45,46,47,48,49,50,51,52,53,54,55,56,57,58,59,60,61,62,63,64,65,66,67,68,69,70,71,72,73,74,75,76,77,78,79,80,81,82,83,84,85,86,87,88,89,90,91,92,93,94,95,96,97,98,99,100,101,102,103,104,105,106,107,108,109,110,111,112,113,114,115,116,117,118,119,120,121,122,123,124,125,126,127,128,129,130,131,132,133,134,135,136,137,138,139,140,141,142,143,144,145,146,147,148,149,150,151,152,153,154,155,156,157,158,159,160,161,162,163,164,165,166,167,168,169,170,171,172,173,174,175,176,177,178,179,180,181,182,183,184] (fun a:Nat×Nat×Nat=>l.length - a.1) (fun a=>a.1<=l.length) (fun a=>[(8,I a.1)]) (fun a=>[(0,⟨a.2.1,.x⟩),(1,⟨a.2.1,.x⟩),(2,⟨a.2.2,.x⟩),(3,⟨a.2.2,.x⟩),(4,⟨a.2.2,.x⟩)]) (0,0,0) (Nat.zero_le _) (by exact Gh.W) ?_;rintro ⟨a,v0,w0⟩ ha;refine ST0 ?_;dsimp only at ha
 by_cases hlt:a < l.length
 ·have q1:decide ((a:Int) < (l.length:Int))=true:=by simp;omega
  have w1:IntKind.i64.wrap ((a:Int) + 1)=((a + 1:Nat):Int):=wrap_i64 (by omega) (by omega);have hr1:(XS.map eSt)[a]? = some (eSt (stk root l a)):=by rw [List.getElem?_map,hrow a (by omega)];rfl
  have hr2:(XS.map eSt)[a + 1]? = some (eSt (stk root l (a + 1))):=by rw [List.getElem?_map,hrow (a + 1) (by omega)];rfl
  have hrc:(l.map eCall)[a]? = some (eCall l[a]):=by rw [List.getElem?_map,List.getElem?_eq_getElem hlt];rfl
  have hl1:a < (XS.map eSt).length:=by rw [List.length_map];omega
  have hl2:a + 1 < (XS.map eSt).length:=by rw [List.length_map];omega
  have hl3:a < (l.map eCall).length:=by rw [List.length_map];omega
  have hI:=stk_inv root l a;have hI2:=stk_inv root l (a + 1);have hat:=(stk_at (root:=root) (List.getElem?_eq_getElem hlt)).1;obtain ⟨hr100,hga⟩:=run_all hok (by omega);have hgc:=hga _ (List.getElem_mem hlt);have hro:=fun (m:Int) (h:(ofTn (stk root l (a + 1)).tens m).1.spc≠(ofTn (stk root l a).tens m).1.spc)=>right_ok (root:=root) (c:=l[a]) hI (m:=m) (by rw [←hat];exact h)
  have hbl:=bodyS_len (root:=root) hgc;have h2:=(body_ac root (by omega) l[a] hgc).ro (r2:=bs none (bodyS root l[a])) (by simp only [AV.ro,ro_B]);have h3:=parseRq_ac (bodyS root l[a]) (by omega);have hfit:=parseRq_fit (bodyS root l[a]);have hs1:=maySt_all hI.may;have hs2:=maySt_all hI2.may
  have hm1:∀ m,((ofTn (stk root l a).tens m).1.spc.prs.length<=100000000):=fun m=>by
   unfold ofTn
   cases hf:(stk root l a).tens.find? (fun x:Ten=>x.num == m) with
   | none=>exact Nat.zero_le _
   | some y=>have:=(hs1.s y (List.mem_of_find?_eq_some hf)).p;dsimp only;omega
  clear hat hga hgc hbl hI hI2 hrow hX;generalize stk root l (a + 1)=s2 at *;generalize stk root l a=s1 at *
  repeat' (first|((first|refine wA1 ?_|(refine GA ?_ ?_<;>intro hg)|(refine GV ?_;intros;simp only [nz])|refine wA6 ?_)<;>try refine wN0 ?_)|refine wT8 ?_|with_reducible intro Q' hQ'|(refine GC ?_ ?_<;>intro hc)|simp only [laq])
  refine cp_loopS [4,9,10,11,12,13,14,15,16,17,18,19,20,21,22,23,24,41,42,43,44,45,46,47,48,49,50,51,52,53,54,55,56,57,58,59,60,61,62,63,64,65,66,67,68,69,70,71,72,73,74,75,76,77,78,79,80,81,82,83,84,85,86,87,88,89,90,91,92,93,94,95,96,97,98,99,100,101,102,103,104,105,106,107,108,109,110,111,112,113,114,115,116,117,118,119,120,121,122,123,124,125,126,127,128,129,130,131,132,133,134,135,136,137,138,139,140,141,142,143,144,145,146,147,148,149,150,151,152,153,154,155,156,157,158,159,160,161,162,163,164,165,166,167,168,169,170,171,172,173,174,175,176,177,178,179,180,181,182,183,184] (fun b:Nat×Nat×Nat=>9 - b.1) (fun b=>b.1<=9) (fun b=>[(9,I b.1)]) (fun b=>[(0,⟨b.2.1,.x⟩),(1,⟨b.2.1,.x⟩),(2,⟨b.2.2,.x⟩),(3,⟨b.2.2,.x⟩),(4,⟨b.2.2,.x⟩)]) (0,v0,w0) (Nat.zero_le _) (by exact Gh.W) ?_;rintro ⟨m,v,w⟩ hm;refine ST0 ?_;dsimp only at hm
  by_cases hmt:m < 9
  ·have p1:decide ((m:Int)<=8)=true:=decide_eq_true (by omega);have p2:IntKind.i64.wrap ((m:Int) + 1)=((m + 1:Nat):Int):=wrap_i64 (by omega) (by omega);have h4:=stof_ac s1 hs1 m;have h5:=stof_ac s2 hs2 m;have h6:=spsame_ac (ofTn s1.tens m).1.spc (ofTn s2.tens m).1.spc (hm1 m)
   by_cases hsame:(ofTn s1.tens m).1.spc=(ofTn s2.tens m).1.spc
   ·rw [decide_eq_true hsame] at h6;clear hro h2 h3 hfit;generalize ofTn s1.tens m=z1 at *;generalize ofTn s2.tens m=z2 at *
    repeat' (first|((first|refine wA1 ?_|(refine GA ?_ ?_<;>intro hg)|(refine GV ?_;intros;simp only [nz])|refine aC1 h4 ?_|refine aC1 h5 ?_|refine wA6 ?_|refine wD4 ?_|refine dC1 h4 ?_|refine dC1 h5 ?_)<;>(try simp only [p1,p2,w1,nq,Nat.reduceBEq,Nat.reduceAdd,Nat.reduceSub]))|refine wT6 ?_|with_reducible intro Q' hQ'|(refine GC ?_ ?_<;>intro hc)|simp only [laq])
    exact ⟨(m + 1,v + 1,w),by (dsimp only;omega),by (dsimp only;omega),by exact Gh.W⟩
   ·rw [decide_eq_false hsame] at h6;obtain ⟨q,t,x,ho⟩:=hro m (fun e=>hsame e.symm);obtain ⟨f1,f2,f3,f4,f5,f6,f7,f8,f9⟩:=ho;have hT:=parT_fit q.tok;rw [f1] at h3 hfit;have h7:=tparse_ac q.tok hfit.2.1;rw [f2] at h7 hT;dsimp only at hT hfit;have h8:=leaves_ac t.line (by have:=hT.2;omega);rw [f8] at h8;have h9:=skey_ac root (by omega) t.ten;have hkl:(keyT root t.ten).length<=1000000:=by unfold keyT;exact Nat.le_trans (Nat.le_of_eq (hmacS_len _ _)) (by omega)
    have h10:=check_ac (keyT root t.ten) hkl t hT.1 (by have:=hT.2;omega);rw [f3] at h10;have h11:True->_:=fun _=>stof_ac s1 hs1 t.ten
    rw [f4] at h11;have g0:((0:Int) != 0)=false:=rfl;have g1:decide ((leavesS t.line).2.1<=l[a].st)=false:=decide_eq_false (by omega);clear hro hsame f1 f2 f3 f4 f7 f8 hfit hkl;generalize ofTn s1.tens m=z1 at *;generalize ofTn s2.tens m=z2 at *;generalize bodyS root l[a]=bd at *;generalize l[a]=c at *;generalize keyT root t.ten=key at *;generalize (leavesS t.line).1=rr at *;generalize (leavesS t.line).2.1=ex at *
    repeat' (first|((first|refine wA1 ?_|(refine GA ?_ ?_<;>intro hg)|(refine GV ?_;intros;simp only [nz])|refine aC1 h4 ?_|refine aC1 h5 ?_|refine wA6 ?_)<;>(try simp only [p1,p2,w1,g0,g1,nq,Nat.reduceBEq,Nat.reduceAdd,Nat.reduceSub]))|refine wT8 ?_|with_reducible intro Q' hQ'|(refine GC ?_ ?_<;>intro hc)|simp only [laq])
    first|refine cp_drwX fun Q' hQ'=>?_|refine cp_drawX ?_
    repeat' (first|((first|refine wA1 ?_|(refine GA ?_ ?_<;>intro hg)|(refine GV ?_;intros;simp only [nz])|refine wA6 ?_|refine wD1 ?_)<;>(try simp only [g0,g1,w1,nq,Nat.reduceBEq,Nat.reduceAdd,Nat.reduceSub]))|refine wT8 ?_|with_reducible intro Q' hQ'|(refine GC ?_ ?_<;>intro hc)|simp only [laq])
    clear h4 h5;have h12:=h11 trivial
    first|refine cp_drwX fun Q' hQ'=>?_|refine cp_drawX ?_
    repeat' (first|((first|refine wA1 ?_|(refine GA ?_ ?_<;>intro hg)|(refine GV ?_;intros;simp only [nz])|refine wA6 ?_|refine wD1 ?_)<;>(try simp only [g0,g1,w1,nq,Nat.reduceBEq,Nat.reduceAdd,Nat.reduceSub]))|refine wT8 ?_|with_reducible intro Q' hQ'|(refine GC ?_ ?_<;>intro hc)|simp only [laq])
    clear h6 h7 h8 h9 h10 h12;refine cp_loopS [4,23,24,128,129,130,131,132,133,134,135,136,137,138,139,140,141,142,143,144,145,146,147,148,149,150,151,152,153] (fun k:Nat=>t.line.length - k) (fun k=>k<=t.line.length) (fun k=>[(23,I k)]) (fun _=>[]) 0 (Nat.zero_le _) (by exact Gh.W) ?_;intro k hk;refine ST0 ?_
    by_cases hkt:k < t.line.length
    ·have o1:decide ((k:Int) < (t.line.length:Int))=true:=by simp;omega
     have o2:IntKind.i64.wrap ((k:Int) + 1)=((k + 1:Nat):Int):=wrap_i64 (by omega) (by omega);have hrk:(t.line.map eGr)[k]? = some (eGr t.line[k]):=by rw [List.getElem?_map,List.getElem?_eq_getElem hkt];rfl
     have hlk:k < (t.line.map eGr).length:=by rw [List.length_map];exact hkt
     have hrv:=f6 _ (List.getElem_mem hkt);generalize t.line[k]=gg at *
     repeat' (first|((first|refine wA1 ?_|(refine GA ?_ ?_<;>intro hg)|(refine GV ?_;intros;simp only [nz])|refine wA6 ?_)<;>(try simp only [o1,nq,Nat.reduceBEq,Nat.reduceAdd,Nat.reduceSub]))|refine wT8 ?_|with_reducible intro Q' hQ'|(refine GC ?_ ?_<;>intro hc)|simp only [laq])
     refine cp_loopS [4,24,135,136,137,138,139,140,141,142,143,144,145,146,147,148,149,150,151,152,153] (fun j:Nat=>x.rev.length - j) (fun j=>j<=x.rev.length) (fun j=>[(24,I j)]) (fun _=>[]) 0 (Nat.zero_le _) (by exact Gh.W) ?_;intro j hj;refine ST0 ?_
     by_cases hjt:j < x.rev.length
     ·have n1:decide ((j:Int) < (x.rev.length:Int))=true:=by simp;omega
      have hxr:=f5.r;have n2:IntKind.i64.wrap ((j:Int) + 1)=((j + 1:Nat):Int):=wrap_i64 (by omega) (by omega);have hrj:(x.rev.map eI)[j]? = some (eI x.rev[j]):=by rw [List.getElem?_map,List.getElem?_eq_getElem hjt];rfl
      have hlj:j < (x.rev.map eI).length:=by rw [List.length_map];exact hjt
      have hz:=hrv _ (List.getElem_mem hjt);generalize x.rev[j]=z at *;have n3:(z == gg.ser)=false:=by rw [beq_eq_false_iff_ne];exact hz
      repeat' (first|((first|refine wA1 ?_|(refine GA ?_ ?_<;>intro hg)|(refine GV ?_;intros;simp only [nz])|refine wA6 ?_|refine wD1 ?_)<;>(try simp only [n1,n2,n3,nq,Nat.reduceBEq,Nat.reduceAdd,Nat.reduceSub]))|refine wT6 ?_|with_reducible intro Q' hQ'|(refine GC ?_ ?_<;>intro hc)|simp only [laq])
      exact ⟨j + 1,by omega,by omega,by exact Gh.W⟩
     ·obtain rfl:j=x.rev.length:=by omega
      have n1:decide ((x.rev.length:Int) < (x.rev.length:Int))=false:=by simp
      repeat' (first|((first|refine wA1 ?_|(refine GA ?_ ?_<;>intro hg)|(refine GV ?_;intros;simp only [nz])|refine wA6 ?_|refine wD1 ?_)<;>(try simp only [n1,o2,nq,Nat.reduceBEq,Nat.reduceAdd,Nat.reduceSub]))|refine wT6 ?_|with_reducible intro Q' hQ'|(refine GC ?_ ?_<;>intro hc)|simp only [laq])
      exact ⟨k + 1,by omega,by omega,by exact Gh.W⟩
    ·obtain rfl:k=t.line.length:=by omega
     have o1:decide ((t.line.length:Int) < (t.line.length:Int))=false:=by simp
     have h12:True->_:=fun _=>has_ac rr 8
     have h13:True->_:=fun _=>has_ac rr 2
     rcases f9 with ⟨e1,e2,e3,e4⟩|⟨e1,e2,e3⟩
     ·rw [e4] at h12;have h14:=h12 trivial;have b1:(t.ten != 0)=false:=by rw [e3];rfl
      have b2:(q.ten != (m:Int))=false:=by rw [e2];exact bne_self_eq_false _
      rcases e1 with e1|e1
      ·have b3:((q.op.toNat:Int) == 6)=true:=by rw [e1];rfl
       repeat' (first|((first|refine wA1 ?_|(refine GA ?_ ?_<;>intro hg)|(refine GV ?_;intros;simp only [nz])|refine wA6 ?_|refine wD1 ?_)<;>(try simp only [o1,b1,b2,b3,p2,nq,Nat.reduceBEq,Nat.reduceAdd,Nat.reduceSub]))|refine wT6 ?_|with_reducible intro Q' hQ'|(refine GC ?_ ?_<;>intro hc)|simp only [laq])
       exact ⟨(m + 1,v + 1,w + 1),by (dsimp only;omega),by (dsimp only;omega),by exact Gh.W⟩
      ·have b3:((q.op.toNat:Int) == 6)=false:=by rw [e1];rfl
       have b4:((q.op.toNat:Int) == 7)=true:=by rw [e1];rfl
       repeat' (first|((first|refine wA1 ?_|(refine GA ?_ ?_<;>intro hg)|(refine GV ?_;intros;simp only [nz])|refine wA6 ?_|refine wD1 ?_)<;>(try simp only [o1,b1,b2,b3,b4,p2,nq,Nat.reduceBEq,Nat.reduceAdd,Nat.reduceSub]))|refine wT6 ?_|with_reducible intro Q' hQ'|(refine GC ?_ ?_<;>intro hc)|simp only [laq])
       exact ⟨(m + 1,v + 1,w + 1),by (dsimp only;omega),by (dsimp only;omega),by exact Gh.W⟩
     ·rw [e3] at h13;have h14:=h13 trivial;have b1:(t.ten != (m:Int))=false:=by rw [e2];exact bne_self_eq_false _
      have b3:((q.op.toNat:Int) == 6)=false:=by
       rw [beq_eq_false_iff_ne];exact fun h=>e1 (.inl (UInt8.toNat_inj.1 (by simpa using (by omega:q.op.toNat=6))))
      have b4:((q.op.toNat:Int) == 7)=false:=by
       rw [beq_eq_false_iff_ne];exact fun h=>e1 (.inr (UInt8.toNat_inj.1 (by simpa using (by omega:q.op.toNat=7))))
      repeat' (first|((first|refine wA1 ?_|(refine GA ?_ ?_<;>intro hg)|(refine GV ?_;intros;simp only [nz])|refine wA6 ?_|refine wD1 ?_)<;>(try simp only [o1,b1,b3,b4,p2,nq,Nat.reduceBEq,Nat.reduceAdd,Nat.reduceSub]))|refine wT6 ?_|with_reducible intro Q' hQ'|(refine GC ?_ ?_<;>intro hc)|simp only [laq])
      exact ⟨(m + 1,v + 1,w + 1),by (dsimp only;omega),by (dsimp only;omega),by exact Gh.W⟩
  ·obtain rfl:m=9:=by omega
   have p1:decide (((9:Nat):Int)<=8)=false:=rfl
   repeat' (first|((first|refine wA1 ?_|(refine GA ?_ ?_<;>intro hg)|(refine GV ?_;intros;simp only [nz])|refine wA6 ?_|refine wD1 ?_)<;>(try simp only [p1,w1,nq,Nat.reduceBEq,Nat.reduceAdd,Nat.reduceSub]))|refine wT6 ?_|with_reducible intro Q' hQ'|(refine GC ?_ ?_<;>intro hc)|simp only [laq])
   exact ⟨(a + 1,v,w),by (dsimp only;omega),by (dsimp only;omega),by exact Gh.W⟩
 ·obtain rfl:a=l.length:=by omega
  have q1:decide ((l.length:Int) < (l.length:Int))=false:=by simp
  have haw:=haw' trivial
  repeat' (first|((first|refine wA1 ?_|(refine GA ?_ ?_<;>intro hg)|(refine GV ?_;intros;simp only [nz])|refine wA6 ?_|refine wD1 ?_)<;>try refine wN0 ?_)|refine wT6 ?_|with_reducible intro Q' hQ'|(refine GC ?_ ?_<;>intro hc)|simp only [laq])
  exact RA0
