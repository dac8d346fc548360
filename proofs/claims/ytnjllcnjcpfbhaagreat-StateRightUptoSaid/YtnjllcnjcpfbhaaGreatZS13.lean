/- Parts. -/
import Derived.Test.YtnjllcnjcpfbhaaGreatZS8
import Derived.Test.YtnjllcnjcpfbhaaGreatZS11
namespace Go.Proofs.YtnjllcnjcpfbhaaGreat
set_option linter.unusedVariables false
set_option linter.unusedSimpArgs false
open Go.RowKit Go.Proofs.Tryz
set_option maxRecDepth 100000
set_option maxHeartbeats 8000000
structure Las where
 client:Int
 id:Int
 rep:Rep
abbrev eLa (x:Las):List AV:=[I x.client,I x.id,I x.rep.err,S x.rep.val,ts none x.rep.keys,I x.rep.n,I x.rep.lnk.n,I x.rep.lnk.st,U x.rep.lnk.op,I x.rep.lnk.ten,I x.rep.lnk.a,I x.rep.lnk.b,I x.rep.lnk.c,U (x.rep.lnk.ahead.getD 0 0),U (x.rep.lnk.ahead.getD 1 0),U (x.rep.lnk.ahead.getD 2 0),U (x.rep.lnk.ahead.getD 3 0),U (x.rep.lnk.ahead.getD 4 0),U (x.rep.lnk.ahead.getD 5 0),U (x.rep.lnk.ahead.getD 6 0),U (x.rep.lnk.ahead.getD 7 0),U (x.rep.lnk.ahead.getD 8 0),U (x.rep.lnk.ahead.getD 9 0),U (x.rep.lnk.ahead.getD 10 0),U (x.rep.lnk.ahead.getD 11 0),U (x.rep.lnk.ahead.getD 12 0),U (x.rep.lnk.ahead.getD 13 0),U (x.rep.lnk.ahead.getD 14 0),U (x.rep.lnk.ahead.getD 15 0),U (x.rep.lnk.ahead.getD 16 0),U (x.rep.lnk.ahead.getD 17 0),U (x.rep.lnk.ahead.getD 18 0),U (x.rep.lnk.ahead.getD 19 0),U (x.rep.lnk.ahead.getD 20 0),U (x.rep.lnk.ahead.getD 21 0),U (x.rep.lnk.ahead.getD 22 0),U (x.rep.lnk.ahead.getD 23 0),U (x.rep.lnk.ahead.getD 24 0),U (x.rep.lnk.ahead.getD 25 0),U (x.rep.lnk.ahead.getD 26 0),U (x.rep.lnk.ahead.getD 27 0),U (x.rep.lnk.ahead.getD 28 0),U (x.rep.lnk.ahead.getD 29 0),U (x.rep.lnk.ahead.getD 30 0),U (x.rep.lnk.ahead.getD 31 0),U (x.rep.lnk.self.getD 0 0),U (x.rep.lnk.self.getD 1 0),U (x.rep.lnk.self.getD 2 0),U (x.rep.lnk.self.getD 3 0),U (x.rep.lnk.self.getD 4 0),U (x.rep.lnk.self.getD 5 0),U (x.rep.lnk.self.getD 6 0),U (x.rep.lnk.self.getD 7 0),U (x.rep.lnk.self.getD 8 0),U (x.rep.lnk.self.getD 9 0),U (x.rep.lnk.self.getD 10 0),U (x.rep.lnk.self.getD 11 0),U (x.rep.lnk.self.getD 12 0),U (x.rep.lnk.self.getD 13 0),U (x.rep.lnk.self.getD 14 0),U (x.rep.lnk.self.getD 15 0),U (x.rep.lnk.self.getD 16 0),U (x.rep.lnk.self.getD 17 0),U (x.rep.lnk.self.getD 18 0),U (x.rep.lnk.self.getD 19 0),U (x.rep.lnk.self.getD 20 0),U (x.rep.lnk.self.getD 21 0),U (x.rep.lnk.self.getD 22 0),U (x.rep.lnk.self.getD 23 0),U (x.rep.lnk.self.getD 24 0),U (x.rep.lnk.self.getD 25 0),U (x.rep.lnk.self.getD 26 0),U (x.rep.lnk.self.getD 27 0),U (x.rep.lnk.self.getD 28 0),U (x.rep.lnk.self.getD 29 0),U (x.rep.lnk.self.getD 30 0),U (x.rep.lnk.self.getD 31 0)]
abbrev lasA (l:List Las):AV:=.sl none 77 (l.map eLa)
def fitL (c i:Int):Bool:=decide (0<=c) && decide (c < 4) && decide (1<=i) && decide (i<=1099511627776)
def lasS (x:Las):Bool:=fitL x.client x.id
theorem pfits_ac (c i:Int):AF 66 [I c,I i] (B (fitL c i)):=by
 refine AC.E func66 ntmps66 ?_;intros
 repeat' (first|((first|refine wA1 ?_|(refine GA ?_ ?_<;>intro hg)|(refine GV ?_;intros;simp only [nz])|refine wA6 ?_)<;>try refine NQ ?_)|refine wT3 ?_|with_reducible intro Q' hQ'|(refine GC ?_ ?_<;>intro hc)|simp only [laq])
 all_goals (refine RB1 ?_;((refine ⟨congrArg B ?_,rfl⟩;(repeat (rename AC _ _ _ _ _=>hzz;clear hzz));rw [Bool.eq_iff_iff];simp [fitL] at *;omega)))
theorem lfits_ac (x:Las):AF 66 [I x.client,I x.id] (B (lasS x)):=pfits_ac _ _
def mayL' (l:List Las):Bool:=asc Las.client geI lasS none l
theorem lmay_ac (l:List Las) (hl:l.length<=1000000):AF 28 [lasA l] (B (mayL' l)):=by
 have hM:mayL' l=asc Las.client geI lasS none l:=rfl;refine AC.E func28 ntmps28 ?_;intros
 repeat' (first|((first|refine wA1 ?_|(refine GA ?_ ?_<;>intro hg)|(refine GV ?_;intros;simp only [nz])|refine wA6 ?_|refine wD1 ?_)<;>try refine NQ ?_)|refine wT6 ?_|with_reducible intro Q' hQ'|(refine GC ?_ ?_<;>intro hc)|simp only [laq])
 refine cp_loopS [2,3,6,7,8,9,10,11,12,13,14,15,16,17,18,19,20,21,22,23,24,25,26,27,28,29,30,31,32,33,34,35,36,37,38,39] (fun a:Nat=>(l).length - a) (fun a=>a<=(l).length/\asc Las.client geI lasS none (l)=asc Las.client geI lasS (prv Las.client (l) a) ((l).drop a)) (fun a=>[(6,I a)]) (fun a=>[]) 0 ⟨Nat.zero_le _,rfl⟩ (by exact Gh.W) ?_;rintro a ⟨ha,hinv⟩;refine ST0 ?_
 by_cases hlt:a < (l).length
 ·have q2:decide ((a:Int) < ((l).length:Int))=true:=by simp;omega
  have q3:IntKind.i64.wrap ((a:Int) + 1)=((a + 1:Nat):Int):=wrap_i64 (by omega) (by omega);have hr:((l).map eLa)[a]? = some (eLa (l)[a]):=by rw [List.getElem?_map,List.getElem?_eq_getElem hlt];rfl
  have h2:=lfits_ac (l)[a]
  cases hp:lasS (l)[a] with
  | false=>
   have hb:=asc_bad (key:=Las.client) (lt:=geI) (ok:=lasS) hlt (by rw [hp];rfl);rw [hM,hinv,hb];rw [hp] at h2;generalize (l)[a]=p at *
   repeat' (first|((first|refine wA1 ?_|(refine GA ?_ ?_<;>intro hg)|(refine GV ?_;intros;simp only [nz])|refine wA6 ?_|refine wD1 ?_)<;>try refine wN4 ?_)|refine wT7 ?_|with_reducible intro Q' hQ'|(refine GC ?_ ?_<;>intro hc)|simp only [laq])
   exact RA0
  | true=>
  rw [hp] at h2;rcases Nat.eq_zero_or_pos a with rfl|hpos
  ·have hg:=asc_go (key:=Las.client) (lt:=geI) (ok:=lasS) hlt (by rw [hp];rfl);have q4:decide ((0:Int) < ((0:Nat):Int))=false:=rfl;generalize (l)[0]=p at *
   repeat' (first|((first|refine wA1 ?_|(refine GA ?_ ?_<;>intro hg)|(refine GV ?_;intros;simp only [nz])|refine wA6 ?_|refine wD1 ?_)<;>try refine wN10 ?_)|refine wT7 ?_|with_reducible intro Q' hQ'|(refine GC ?_ ?_<;>intro hc)|simp only [laq])
   exact ⟨1,by omega,⟨by omega,hinv.trans hg⟩,by exact Gh.W⟩
  ·have q4:decide ((0:Int) < (a:Int))=true:=by simp;omega
   have q5:IntKind.i64.wrap ((a:Int) - 1)=((a - 1:Nat):Int):=by rw [wrap_i64 (by omega) (by omega)];omega
   have hr2:((l).map eLa)[a - 1]? = some (eLa ((l)[a - 1]'(by omega))):=by rw [List.getElem?_map,List.getElem?_eq_getElem (by omega)];rfl
   have hpv:prv Las.client (l) a=some (Las.client ((l)[a - 1]'(by omega))):=by
    obtain ⟨b,rfl⟩:∃ b,a=b + 1:=⟨a - 1,by omega⟩
    show ((l)[b]?).map Las.client=_
    rw [List.getElem?_eq_getElem (by omega)];rfl
   cases hq:geI (Las.client ((l)[a - 1]'(by omega))) (Las.client (l)[a]) with
   | false=>
    have hb:=asc_bad (key:=Las.client) (lt:=geI) (ok:=lasS) hlt (by rw [hp,hpv];exact hq);rw [hM,hinv,hb];generalize (l)[a]=p at *;generalize (l)[a - 1]'(by omega)=p0 at *;have hq2:decide (p.client<=p0.client)=true:=by simpa [geI] using hq
    repeat' (first|((first|refine wA1 ?_|(refine GA ?_ ?_<;>intro hg)|(refine GV ?_;intros;simp only [nz])|refine wA6 ?_|refine wD1 ?_)<;>try refine wN6 ?_)|refine wT7 ?_|with_reducible intro Q' hQ'|(refine GC ?_ ?_<;>intro hc)|simp only [laq])
    exact RA0
   | true=>
    have hg:=asc_go (key:=Las.client) (lt:=geI) (ok:=lasS) hlt (by rw [hp,hpv];exact hq);generalize (l)[a]=p at *;generalize (l)[a - 1]'(by omega)=p0 at *;have hq2:decide (p.client<=p0.client)=false:=by simpa [geI] using hq
    repeat' (first|((first|refine wA1 ?_|(refine GA ?_ ?_<;>intro hg)|(refine GV ?_;intros;simp only [nz])|refine wA6 ?_|refine wD1 ?_)<;>try refine wN6 ?_)|refine wT7 ?_|with_reducible intro Q' hQ'|(refine GC ?_ ?_<;>intro hc)|simp only [laq])
    exact ⟨a + 1,by omega,⟨by omega,hinv.trans hg⟩,by exact Gh.W⟩
 obtain rfl:a=(l).length:=by omega
 have q2:decide (((l).length:Int) < ((l).length:Int))=false:=by simp
 rw [hM,hinv,asc_end]
 repeat' (first|((first|refine wA1 ?_|(refine GA ?_ ?_<;>intro hg)|(refine GV ?_;intros;simp only [nz])|refine wA6 ?_|refine wD1 ?_)<;>try refine wN9 ?_)|refine wT7 ?_|with_reducible intro Q' hQ'|(refine GC ?_ ?_<;>intro hc)|simp only [laq])
 exact RA0
def clkS (n:Int):Bool:=decide (0<=n) && decide (n<=1099511627776)
theorem clock_ac (n:Int):AF 26 [I n] (B (clkS n)):=by
 refine AC.E func26 ntmps26 ?_;intros
 repeat' (first|((first|refine wA1 ?_|(refine GA ?_ ?_<;>intro hg)|(refine GV ?_;intros;simp only [nz])|refine wA6 ?_)<;>try refine NQ ?_)|refine wT3 ?_|with_reducible intro Q' hQ'|(refine GC ?_ ?_<;>intro hc)|simp only [laq])
 all_goals (refine RB1 ?_;((refine ⟨congrArg B ?_,rfl⟩;(repeat (rename AC _ _ _ _ _=>hzz;clear hzz));rw [Bool.eq_iff_iff];simp [clkS] at *;omega)))
structure Ten where
 num:Int
 ser:Int
 spc:Spc
 rev:List Int
abbrev eTe (t:Ten):List AV:=[I t.num,I t.ser,I t.spc.keys,I t.spc.bytes,prsA t.spc.prs,.sl none 1 (t.rev.map eI)]
structure Ten.small (t:Ten):Prop where
 r:t.rev.length<=1000000
 p:t.spc.prs.length<=1000000
 s:∀ p∈t.spc.prs,p.key.length<=1000000/\p.val.length<=1000000
def sh3 (a b c x y z:Int):Bool:=eqVs [.int .i64 a,.int .i64 b,.int .i64 c] [.int .i64 x,.int .i64 y,.int .i64 z]
def tenS (sh:List Shr) (fst:Bool) (t:Ten):Bool:=clkS t.ser && mayR t.rev && maySp t.spc && (match fst with
 | true=>sh3 t.num t.spc.keys t.spc.bytes 0 0 0 && decide (0 < t.ser)
 | false=>(ofQ sh t.num).2 && sh3 (ofQ sh t.num).1.ten (ofQ sh t.num).1.keys (ofQ sh t.num).1.spc t.num t.spc.keys t.spc.bytes)
theorem wA13 {G G':Prop} (K:G') (h:G'->G:=by (intro kz;(with_reducible apply AP.k_any);exact AP.EQ kz)):G:=h K
theorem tenant_ac (sh:List Shr) (hsh:sh.length<=1000000) (i:Nat) (t:Ten) (ht:t.small):AF 29 [shrA sh,I i,.ag (eTe t)] (B (tenS sh (decide (i=0)) t)):=by
 have h1:=clock_ac t.ser;have h2:=rmay_ac t.rev ht.r;have h3:=smay_ac t.spc ht.p ht.s;have h4:=qof_ac sh hsh t.num
 cases hA:clkS t.ser with
 | false=>
  rw [hA] at h1;rw [show tenS sh (decide (i=0)) t=false from may_of (.inl hA)];refine AC.E func29 ntmps29 ?_;intros;iterate 3 refine CP.SL ?_
  repeat' (first|((first|refine wA1 ?_|(refine GA ?_ ?_<;>intro hg)|(refine GV ?_;intros;simp only [nz])|refine wA6 ?_)<;>try refine NQ ?_)|refine wT3 ?_|with_reducible intro Q' hQ'|(refine GC ?_ ?_<;>intro hc)|simp only [laq])
  exact RA0
 | true=>
 rw [hA] at h1
 cases hB:mayR t.rev with
 | false=>
  rw [hB] at h2;rw [show tenS sh (decide (i=0)) t=false from may_of (.inr (.inl hB))];refine AC.E func29 ntmps29 ?_;intros;iterate 3 refine CP.SL ?_
  repeat' (first|((first|refine wA1 ?_|(refine GA ?_ ?_<;>intro hg)|(refine GV ?_;intros;simp only [nz])|refine wA6 ?_)<;>try refine NQ ?_)|refine wT3 ?_|with_reducible intro Q' hQ'|(refine GC ?_ ?_<;>intro hc)|simp only [laq])
  exact RA0
 | true=>
 rw [hB] at h2
 cases hC:maySp t.spc with
 | false=>
  rw [hC] at h3;rw [show tenS sh (decide (i=0)) t=false from may_of (.inr (.inr (.inl hC)))];refine AC.E func29 ntmps29 ?_;intros;iterate 3 refine CP.SL ?_
  repeat' (first|((first|refine wA1 ?_|(refine GA ?_ ?_<;>intro hg)|(refine GV ?_;intros;simp only [nz])|refine wA6 ?_)<;>try refine NQ ?_)|refine wT3 ?_|with_reducible intro Q' hQ'|(refine GC ?_ ?_<;>intro hc)|simp only [laq])
  exact RA0
 | true=>
 rw [hC] at h3
 by_cases hi:i=0
 ·subst hi;rw [show tenS sh (decide (0=0)) t=(sh3 t.num t.spc.keys t.spc.bytes 0 0 0 && decide (0 < t.ser)) by unfold tenS;rw [hA,hB,hC];rfl];have q1:(((0:Nat):Int) == 0)=true:=rfl
  cases hE:sh3 t.num t.spc.keys t.spc.bytes 0 0 0 <;>
   (unfold sh3 at hE
    refine AC.E func29 ntmps29 ?_;intros;iterate 3 refine CP.SL ?_
    repeat' (first|((first|refine wA1 ?_|(refine GA ?_ ?_<;>intro hg)|(refine GV ?_;intros;simp only [nz])|refine wA13 ?_|refine wA6 ?_)<;>(try simp only [q1,hE,nq,Nat.reduceBEq,Nat.reduceAdd,Nat.reduceSub]))|refine wT3 ?_|with_reducible intro Q' hQ'|(refine GC ?_ ?_<;>intro hc)|simp only [laq])
    exact RA0)
 ·have q1:((i:Int) == 0)=false:=by rw [beq_eq_false_iff_ne];omega
  rw [show tenS sh (decide (i=0)) t=((ofQ sh t.num).2 && sh3 (ofQ sh t.num).1.ten (ofQ sh t.num).1.keys (ofQ sh t.num).1.spc t.num t.spc.keys t.spc.bytes) by unfold tenS;rw [hA,hB,hC,decide_eq_false hi];rfl];generalize ofQ sh t.num=R at *;obtain ⟨x,ok⟩:=R;dsimp only at h4 ⊢
  cases ok<;>cases hE:sh3 x.ten x.keys x.spc t.num t.spc.keys t.spc.bytes <;>
   (unfold sh3 at hE
    refine AC.E func29 ntmps29 ?_;intros;iterate 3 refine CP.SL ?_
    repeat' (first|((first|refine wA1 ?_|(refine GA ?_ ?_<;>intro hg)|(refine GV ?_;intros;simp only [nz])|refine wA13 ?_|refine wA6 ?_)<;>(try simp only [q1,hE,nq,Nat.reduceBEq,Nat.reduceAdd,Nat.reduceSub]))|refine wT3 ?_|with_reducible intro Q' hQ'|(refine GC ?_ ?_<;>intro hc)|simp only [laq])
    exact RA0)
