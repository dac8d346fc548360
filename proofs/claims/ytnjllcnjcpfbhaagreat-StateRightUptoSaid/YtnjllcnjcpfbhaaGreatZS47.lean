/- Parts. -/
import Derived.Test.YtnjllcnjcpfbhaaGreatZS44
namespace Go.Proofs.YtnjllcnjcpfbhaaGreat
set_option linter.unusedVariables false
set_option linter.unusedSimpArgs false
open Go.RowKit Go.Proofs.Tryz
set_option maxRecDepth 100000
set_option maxHeartbeats 8000000
theorem wN35 {G G':Prop} (K:G') (h:G'->G:=by (intro kz;simp only [q1,q2,q3,w1,nq,Nat.reduceBEq,Nat.reduceAdd,Nat.reduceSub];exact kz)):G:=h K
theorem roSt (l:List St):roE (l.map eSt)=l.map eSt:=by rw [roE_map];exact List.map_congr_left fun x _=>by simp only [roC,AV.ro,roTe,roS,roLk,roL]
theorem roRp (l:List Rep):roE (l.map eRp)=l.map eRp:=by rw [roE_map];exact List.map_congr_left fun x _=>by simp only [roC,AV.ro,roT]
structure CallR.small (c:CallR):Prop where
 l:c.line.length<=10000000
 r:c.raw.length<=10000000
 t:c.q.tok.length<=10000000
 k:c.q.key.length<=10000000
 v:c.q.val.length<=10000000
 o:c.q.old.length<=10000000
def runX (root:List UInt8) (l:List CallR):List St:=if runOk root l=true then allS root l l.length else []
def runY (root:List UInt8) (l:List CallR):List Rep:=if runOk root l=true then outS root l l.length else []
theorem run_bad {root:List UInt8} {l:List CallR} {a:Nat} (h:a < l.length) (hb:greatC l[a]=true\/100 < root.length\/30 < l.length):runOk root l=false:=by
 unfold runOk;rw [Bool.or_eq_false_iff];refine ⟨decide_eq_false (by intro e;rw [e] at h;simp at h),?_⟩;rcases hb with hb|hb|hb
 ·rw [Bool.and_eq_false_iff];right;rw [List.all_eq_false];exact ⟨l[a],List.getElem_mem h,by simp [hb]⟩
 ·rw [decide_eq_false (by omega)];rfl
 ·rw [show decide (l.length<=30)=false from decide_eq_false (by omega),Bool.and_false];rfl
theorem run_good {root:List UInt8} {l:List CallR} (h:l.length=0\/root.length<=100/\l.length<=30) (hg:∀ c∈l,greatC c=false):runOk root l=true:=by
 unfold runOk;rcases h with h|h
 ·rw [decide_eq_true (List.eq_nil_of_length_eq_zero h)];rfl
 ·have e:(l.all fun c=>!greatC c)=true:=List.all_eq_true.2 fun c hc=>by rw [hg c hc];rfl
  rw [decide_eq_true h.1,decide_eq_true h.2,e,Bool.true_and,Bool.true_and,Bool.or_true]
theorem wA23 {G G':Prop} (K:G') (h:G'->G:=by (intro kz;(with_reducible apply AP.k_any);exact AP.B1 kz)):G:=h K
theorem runO_ac (root:List UInt8) (hr:root.length<=1000000000) (l:List CallR) (hl:l.length<=1000000000) (hc:∀ c∈l,c.small):AF 7 [bs none root,.sl none 19 (l.map eCall)] (.tu [.sl (some tSt) 5 ((runX root l).map eSt),.sl (some 74) 75 ((runY root l).map eRp),B (runOk root l)]):=by
 have h1:=stnew_ac;refine AC.E func7 ntmps7 ?_;intro X hρ hmks
 repeat' (first|((first|refine wA1 ?_|(refine GA ?_ ?_<;>intro hg)|(refine GV ?_;intros;simp only [nz])|refine wA23 ?_|refine wA6 ?_|refine wD4 ?_|((with_reducible apply DW.k_any);refine DW.known rfl ?_;(with_reducible first|apply DW.sx 2);(iterate 2 (focus (simp only [ft,nm,Nat.reduceAdd,Nat.reduceBEq,List.getElem?_cons_zero,List.getElem?_cons_succ];exact rfl)));(focus (intro X V;simp only [ft,nm,Nat.reduceAdd,Nat.reduceBEq];(try (refine AP.Y ?_;dsimp only));(first|refine AP.B1 ?_|fail);(try refine NX ?_);refine AP.nil ?_;(first|refine ⟨trivial,rfl,?_⟩|refine ⟨rfl,rfl,?_⟩);(repeat' (first|exact Mg.nil|apply Mg.keep rfl|apply Mg.take rfl));done));(focus (refine Exists.intro (fun _=>0) ?_;apply Exists.intro;(repeat' (first|exact Mg.nil|apply Mg.keep rfl|apply Mg.take rfl));done));(iterate 2 (focus (exact rfl)))))<;>try refine NQ ?_)|refine wT6 ?_|with_reducible intro Q' hQ'|(refine GC ?_ ?_<;>intro hc)|simp only [laq])
 clear h1;refine CP.gh (gh_nil (t:=9) (e:=74) (k:=75) rfl) ?_;refine NX ?_;iterate 3 refine CP.SL ?_
 refine cp_loopS [4,5,6,8,9,10,11,12,16,17,18,19,20,21,22,23,24,25,26,27,28,29,30,31,32,33,34,35,36,37,38,39,40,41,42,43,44,45,46,47,48,49,50,51,52,53,54,55,56,57,58,59,60,61,62,63,64,65,66,67,68,69,70,71,72,73,74,75,76] (fun a:Nat=>l.length - a) (fun a=>a<=l.length/\(a=0\/root.length<=100/\l.length<=30)/\∀ c∈l.take a,greatC c=false) (fun a=>[(10,I a),(8,.hd 1 (a + 1)),(9,.hd 2 (a + 1))]) (fun a=>[(0,⟨1,.c tSt (eSt (stk root l a))⟩),(1,⟨a + 1,.r tSt 5 ((allS root l a).map eSt)⟩),(2,⟨a + 1,.r 74 75 ((outS root l a).map eRp)⟩),(3,⟨a,.x⟩),(4,⟨a,.x⟩),(5,⟨2 * a,.x⟩)]) 0 ⟨Nat.zero_le _,.inl rfl,fun c hc=>by cases hc⟩ (by exact Gh.W) ?_;rintro a ⟨ha,hlim,hgr⟩;refine ST0 ?_
 by_cases hlt:a < l.length
 ·have q1:decide ((a:Int) < (l.length:Int))=true:=by simp;omega
  have w1:IntKind.i64.wrap ((a:Int) + 1)=((a + 1:Nat):Int):=wrap_i64 (by omega) (by omega);have hrow:(l.map eCall)[a]? = some (eCall l[a]):=by rw [List.getElem?_map,List.getElem?_eq_getElem hlt];rfl
  obtain ⟨s1,s2,s3,s4,s5,s6⟩:=hc _ (List.getElem_mem hlt);have hg:=great_ac l[a] (by omega) (by omega) (by omega) (by omega) (by omega) (by omega);have hbad:=run_bad (root:=root) hlt
  by_cases hb:greatC l[a]=true\/100 < root.length\/30 < l.length
  ·have e0:=hbad hb;unfold runX runY;rw [e0,if_neg (by simp),if_neg (by simp)];clear hbad;generalize l[a]=c at *
   cases hgc:greatC c with
   | true=>
    rw [hgc] at hg
    repeat' (first|((first|refine wA1 ?_|(refine GA ?_ ?_<;>intro hg)|(refine GV ?_;intros;simp only [nz])|refine wA6 ?_|refine wD1 ?_)<;>(try simp only [q1,w1,nq,Nat.reduceBEq,Nat.reduceAdd,Nat.reduceSub]))|refine wT6 ?_|with_reducible intro Q' hQ'|(refine GC ?_ ?_<;>intro hc)|simp only [laq])
    exact RA0
   | false=>
    rw [hgc] at hg
    by_cases h100:100 < root.length
    ·have q2:decide ((100:Int) < (root.length:Int))=true:=decide_eq_true (by omega)
     repeat' (first|((first|refine wA1 ?_|(refine GA ?_ ?_<;>intro hg)|(refine GV ?_;intros;simp only [nz])|refine wA6 ?_|refine wD1 ?_)<;>(try simp only [q1,q2,w1,nq,Nat.reduceBEq,Nat.reduceAdd,Nat.reduceSub]))|refine wT6 ?_|with_reducible intro Q' hQ'|(refine GC ?_ ?_<;>intro hc)|simp only [laq])
     exact RA0
    ·have q2:decide ((100:Int) < (root.length:Int))=false:=decide_eq_false (by omega)
     have q3:decide ((30:Int) < (l.length:Int))=true:=decide_eq_true (by
      rcases hb with h|h|h
      ·rw [hgc] at h;cases h
      ·exact absurd h h100
      ·omega)
     repeat' (first|((first|refine wA1 ?_|(refine GA ?_ ?_<;>intro hg)|(refine GV ?_;intros;simp only [nz])|refine wA6 ?_|refine wD1 ?_)<;>try refine wN35 ?_)|refine wT6 ?_|with_reducible intro Q' hQ'|(refine GC ?_ ?_<;>intro hc)|simp only [laq])
     exact RA0
  ·have hgc:greatC l[a]=false:=by
    cases h:greatC l[a] with
    | true=>exact absurd (.inl h) hb
    | false=>rfl
   have h100:root.length<=100:=by
    rcases Nat.lt_or_ge 100 root.length with h|h
    ·exact absurd (.inr (.inl h)) hb
    ·exact h
   have h30:l.length<=30:=by
    rcases Nat.lt_or_ge 30 l.length with h|h
    ·exact absurd (.inr (.inr h)) hb
    ·exact h
   rw [hgc] at hg;have q2:decide ((100:Int) < (root.length:Int))=false:=decide_eq_false (by omega);have q3:decide ((30:Int) < (l.length:Int))=false:=decide_eq_false (by omega);have hat:=stk_at (root:=root) (List.getElem?_eq_getElem hlt);have e3:(allS root l (a + 1)).map eSt=(allS root l a).map eSt ++ [eSt (stepS root (stk root l a) l[a]).1]:=by rw [allS_succ,hat.1,List.map_append];rfl
   have e4:(outS root l (a + 1)).map eRp=(outS root l a).map eRp ++ [eRp (stepS root (stk root l a) l[a]).2]:=by rw [outS_succ,hat.2,List.map_append];rfl
   have e5:=hat.1
   have hgr':∀ c∈l.take (a + 1),greatC c=false:=fun c hc=>by
    rw [List.take_succ_eq_append_getElem hlt] at hc;rcases List.mem_append.1 hc with h|h
    ·exact hgr c h
    ·rw [List.mem_singleton.1 h];exact hgc
   have hbl:=bodyS_len (root:=root) hgc;have h2:=(body_ac root (by omega) l[a] hgc).ro (r2:=bs none (bodyS root l[a])) (by simp only [AV.ro,ro_B]);have h3:=apply_ac (stk_inv root l a) (by omega) root (by omega) (entC root (stk root l a) l[a]) (by show (bodyS root l[a]).length<=_;omega);have la:((allS root l a).map eSt).length + 1<=1000000000:=by rw [List.length_map,allS_len];omega
   have lo:((outS root l a).map eRp).length + 1<=1000000000:=by rw [List.length_map,outS_len];omega
   have la2:(allS root l a).length + 1<=1000000000:=by rw [allS_len];omega
   have lo2:(outS root l a).length + 1<=1000000000:=by rw [outS_len];omega
   change AC _ _ _ _ (fun v bs'=>v=.tu [.ag (eSt (stepS root (stk root l a) l[a]).1),.ag (eRp (stepS root (stk root l a) l[a]).2)]/\bs'=[]) at h3
   unfold entC at h3;clear hat hbad hb hgr hbl;generalize stepS root (stk root l a) l[a]=R at *;generalize stk root l a=s at *;generalize bodyS root l[a]=bd at *;generalize l[a]=c at *
   repeat' (first|((first|refine wA1 ?_|(refine GA ?_ ?_<;>intro hg)|(refine GV ?_;intros;simp only [nz])|refine wA6 ?_)<;>try refine wN35 ?_)|refine wT8 ?_|with_reducible intro Q' hQ'|(refine GC ?_ ?_<;>intro hc)|simp only [laq])
   first|refine cp_drwX fun Q' hQ'=>?_|refine cp_drawX ?_
   iterate 35 refine DS0 ?_
   repeat' (first|((first|refine wA20 ?_|(refine GA ?_ ?_<;>intro hg)|(refine GV ?_;intros;simp only [nz])|refine wA6 ?_|refine wD4 ?_|((with_reducible apply DW.k_any);refine DW.known rfl ?_;(with_reducible first|apply DW.sx 2);(iterate 2 (focus (simp only [ft,nm,Nat.reduceAdd,Nat.reduceBEq,List.getElem?_cons_zero,List.getElem?_cons_succ];exact rfl)));(focus (intro X V;simp only [ft,nm,Nat.reduceAdd,Nat.reduceBEq];(try (refine AP.Y ?_;dsimp only));(first|refine AP.B1 ?_|fail);(try refine NX ?_);refine AP.nil ?_;(first|refine ⟨trivial,rfl,?_⟩|refine ⟨rfl,rfl,?_⟩);(repeat' (first|exact Mg.nil|apply Mg.keep rfl|apply Mg.take rfl));done));(focus (refine Exists.intro (fun _=>0) ?_;apply Exists.intro;(repeat' (first|exact Mg.nil|apply Mg.keep rfl|apply Mg.take rfl));done));(iterate 2 (focus (exact rfl)))))<;>try refine wN24 ?_)|refine wT6 ?_|with_reducible intro Q' hQ'|(refine GC ?_ ?_<;>intro hc)|simp only [laq])
   refine ⟨a + 1,by omega,⟨by omega,.inr ⟨h100,h30⟩,hgr'⟩,?_⟩;rw [e3,e4,e5];exact Gh.W
 ·obtain rfl:a=l.length:=by omega
  have q1:decide ((l.length:Int) < (l.length:Int))=false:=by simp
  rw [List.take_length] at hgr;have e0:=run_good (root:=root) hlim hgr;unfold runX runY;rw [e0,if_pos rfl,if_pos rfl]
  repeat' (first|((first|refine wA1 ?_|(refine GA ?_ ?_<;>intro hg)|(refine GV ?_;intros;simp only [nz])|refine wA6 ?_|refine wD1 ?_)<;>try refine wN0 ?_)|refine wT6 ?_|with_reducible intro Q' hQ'|(refine GC ?_ ?_<;>intro hc)|simp only [laq])
  exact RA0
theorem okCall_small {N:Nat} (hN:N<=10000000) {c:CallR} (h:okCall N c):c.small:=by
 obtain ⟨⟨k1,k2,k3,k4⟩,k5,k6⟩:=h;exact ⟨by omega,by omega,by omega,by omega,by omega,by omega⟩
