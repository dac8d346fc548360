/- Parts. -/
import Derived.Test.YtnjllcnjcpfbhaaGreatZS7
namespace Go.Proofs.YtnjllcnjcpfbhaaGreat
set_option linter.unusedVariables false
set_option linter.unusedSimpArgs false
open Go.RowKit Go.Proofs.Tryz
set_option maxRecDepth 100000
set_option maxHeartbeats 8000000
abbrev geI (a b:Int):Bool:=!decide (b<=a)
structure Shr where
 ten:Int
 keys:Int
 spc:Int
abbrev eShr (x:Shr):List AV:=[I x.ten,I x.keys,I x.spc]
abbrev shrA (l:List Shr):AV:=.sl none 3 (l.map eShr)
def shrS (x:Shr):Bool:=decide (1<=x.ten) && decide (x.ten<=8) && decide (0<=x.keys) && decide (x.keys<=64) && decide (0<=x.spc) && decide (x.spc<=4096)
theorem share_ac (x:Shr):AF 125 [.ag (eShr x)] (B (shrS x)):=by
 refine AC.E func125 ntmps125 ?_;intros;refine CP.SL ?_
 repeat' (first|((first|refine wA1 ?_|(refine GA ?_ ?_<;>intro hg)|(refine GV ?_;intros;simp only [nz])|refine wA6 ?_)<;>try refine NQ ?_)|refine wT3 ?_|with_reducible intro Q' hQ'|(refine GC ?_ ?_<;>intro hc)|simp only [laq])
 all_goals (refine RB1 ?_;((refine ⟨congrArg B ?_,rfl⟩;(repeat (rename AC _ _ _ _ _=>hzz;clear hzz));rw [Bool.eq_iff_iff];simp [shrS] at *;omega)))
def ascQ (l:List Shr):Bool:=decide (l.length<=8) && asc Shr.ten geI shrS none l
theorem shares_ac (l:List Shr) (hl:l.length<=1000000):AF 64 [shrA l] (B (ascQ l)):=by
 by_cases hB:8 < l.length
 ·have q1:decide ((8:Int) < (l.length:Int))=true:=decide_eq_true (by omega);rw [show ascQ l=false by unfold ascQ;rw [decide_eq_false (by omega)];rfl];refine AC.E func64 ntmps64 ?_;intros
  repeat' (first|((first|refine wA1 ?_|(refine GA ?_ ?_<;>intro hg)|(refine GV ?_;intros;simp only [nz])|refine wA6 ?_|refine wD1 ?_)<;>try refine wN0 ?_)|refine wT6 ?_|with_reducible intro Q' hQ'|(refine GC ?_ ?_<;>intro hc)|simp only [laq])
  exact RA0
 have q1:decide ((8:Int) < (l.length:Int))=false:=decide_eq_false (by omega);have hM:ascQ l=asc Shr.ten geI shrS none l:=by unfold ascQ;rw [decide_eq_true (by omega)];rfl
 refine AC.E func64 ntmps64 ?_;intros
 repeat' (first|((first|refine wA1 ?_|(refine GA ?_ ?_<;>intro hg)|(refine GV ?_;intros;simp only [nz])|refine wA6 ?_|refine wD1 ?_)<;>try refine wN0 ?_)|refine wT6 ?_|with_reducible intro Q' hQ'|(refine GC ?_ ?_<;>intro hc)|simp only [laq])
 refine cp_loopS [2,3,9,10,11,12,13,14,15,16,17,18,19,20,21,22,23,24,25,26,27,28,29,30,31,32,33,34,35,36] (fun a:Nat=>(l).length - a) (fun a=>a<=(l).length/\asc Shr.ten geI shrS none (l)=asc Shr.ten geI shrS (prv Shr.ten (l) a) ((l).drop a)) (fun a=>[(9,I a)]) (fun a=>[]) 0 ⟨Nat.zero_le _,rfl⟩ (by exact Gh.W) ?_;rintro a ⟨ha,hinv⟩;refine ST0 ?_
 by_cases hlt:a < (l).length
 ·have q2:decide ((a:Int) < ((l).length:Int))=true:=by simp;omega
  have q3:IntKind.i64.wrap ((a:Int) + 1)=((a + 1:Nat):Int):=wrap_i64 (by omega) (by omega);have hr:((l).map eShr)[a]? = some (eShr (l)[a]):=by rw [List.getElem?_map,List.getElem?_eq_getElem hlt];rfl
  have h2:=share_ac (l)[a]
  cases hp:shrS (l)[a] with
  | false=>
   have hb:=asc_bad (key:=Shr.ten) (lt:=geI) (ok:=shrS) hlt (by rw [hp];rfl);rw [hM,hinv,hb];rw [hp] at h2;generalize (l)[a]=p at *
   repeat' (first|((first|refine wA1 ?_|(refine GA ?_ ?_<;>intro hg)|(refine GV ?_;intros;simp only [nz])|refine wA6 ?_|refine wD1 ?_)<;>try refine wN4 ?_)|refine wT7 ?_|with_reducible intro Q' hQ'|(refine GC ?_ ?_<;>intro hc)|simp only [laq])
   exact RA0
  | true=>
  rw [hp] at h2;rcases Nat.eq_zero_or_pos a with rfl|hpos
  ·have hg:=asc_go (key:=Shr.ten) (lt:=geI) (ok:=shrS) hlt (by rw [hp];rfl);have q4:decide ((0:Int) < ((0:Nat):Int))=false:=rfl;generalize (l)[0]=p at *
   repeat' (first|((first|refine wA1 ?_|(refine GA ?_ ?_<;>intro hg)|(refine GV ?_;intros;simp only [nz])|refine wA6 ?_|refine wD1 ?_)<;>try refine wN10 ?_)|refine wT7 ?_|with_reducible intro Q' hQ'|(refine GC ?_ ?_<;>intro hc)|simp only [laq])
   exact ⟨1,by omega,⟨by omega,hinv.trans hg⟩,by exact Gh.W⟩
  ·have q4:decide ((0:Int) < (a:Int))=true:=by simp;omega
   have q5:IntKind.i64.wrap ((a:Int) - 1)=((a - 1:Nat):Int):=by rw [wrap_i64 (by omega) (by omega)];omega
   have hr2:((l).map eShr)[a - 1]? = some (eShr ((l)[a - 1]'(by omega))):=by rw [List.getElem?_map,List.getElem?_eq_getElem (by omega)];rfl
   have hpv:prv Shr.ten (l) a=some (Shr.ten ((l)[a - 1]'(by omega))):=by
    obtain ⟨b,rfl⟩:∃ b,a=b + 1:=⟨a - 1,by omega⟩
    show ((l)[b]?).map Shr.ten=_
    rw [List.getElem?_eq_getElem (by omega)];rfl
   cases hq:geI (Shr.ten ((l)[a - 1]'(by omega))) (Shr.ten (l)[a]) with
   | false=>
    have hb:=asc_bad (key:=Shr.ten) (lt:=geI) (ok:=shrS) hlt (by rw [hp,hpv];exact hq);rw [hM,hinv,hb];generalize (l)[a]=p at *;generalize (l)[a - 1]'(by omega)=p0 at *;have hq2:decide (p.ten<=p0.ten)=true:=by simpa [geI] using hq
    repeat' (first|((first|refine wA1 ?_|(refine GA ?_ ?_<;>intro hg)|(refine GV ?_;intros;simp only [nz])|refine wA6 ?_|refine wD1 ?_)<;>try refine wN6 ?_)|refine wT7 ?_|with_reducible intro Q' hQ'|(refine GC ?_ ?_<;>intro hc)|simp only [laq])
    exact RA0
   | true=>
    have hg:=asc_go (key:=Shr.ten) (lt:=geI) (ok:=shrS) hlt (by rw [hp,hpv];exact hq);generalize (l)[a]=p at *;generalize (l)[a - 1]'(by omega)=p0 at *;have hq2:decide (p.ten<=p0.ten)=false:=by simpa [geI] using hq
    repeat' (first|((first|refine wA1 ?_|(refine GA ?_ ?_<;>intro hg)|(refine GV ?_;intros;simp only [nz])|refine wA6 ?_|refine wD1 ?_)<;>try refine wN6 ?_)|refine wT7 ?_|with_reducible intro Q' hQ'|(refine GC ?_ ?_<;>intro hc)|simp only [laq])
    exact ⟨a + 1,by omega,⟨by omega,hinv.trans hg⟩,by exact Gh.W⟩
 obtain rfl:a=(l).length:=by omega
 have q2:decide (((l).length:Int) < ((l).length:Int))=false:=by simp
 rw [hM,hinv,asc_end]
 repeat' (first|((first|refine wA1 ?_|(refine GA ?_ ?_<;>intro hg)|(refine GV ?_;intros;simp only [nz])|refine wA6 ?_|refine wD1 ?_)<;>try refine wN9 ?_)|refine wT7 ?_|with_reducible intro Q' hQ'|(refine GC ?_ ?_<;>intro hc)|simp only [laq])
 exact RA0
def sumK:List Shr->Int
 | []=>0
 | x :: l=>x.keys + sumK l
def sumY:List Shr->Int
 | []=>0
 | x :: l=>x.spc + sumY l
theorem sum_app (l m:List Shr):sumK (l ++ m)=sumK l + sumK m/\sumY (l ++ m)=sumY l + sumY m:=by
 induction l with
 | nil=>simp [sumK,sumY]
 | cons x l ih=>simp only [List.cons_append,sumK,sumY,ih];omega
theorem sum_le {l:List Shr} (h:∀ x∈l,shrS x=true):0<=sumK l/\sumK l<=64 * l.length/\0<=sumY l/\sumY l<=4096 * l.length:=by
 induction l with
 | nil=>simp [sumK,sumY]
 | cons x l ih=>
  have h1:=h x (by simp);have h2:=ih fun y hy=>h y (by simp [hy])
  simp only [shrS,Bool.and_eq_true,decide_eq_true_eq] at h1;simp only [sumK,sumY,List.length_cons];omega
theorem sums_ac (l:List Shr) (hl:l.length<=1000000) (hs:∀ x∈l,shrS x=true):AF 126 [shrA l] (.tu [I (sumK l),I (sumY l)]):=by
 refine AC.E func126 ntmps126 ?_;intros;refine CP.SL ?_
 repeat' (first|((first|refine wA1 ?_|(refine GA ?_ ?_<;>intro hg)|(refine GV ?_;intros;simp only [nz])|refine wA6 ?_|refine wD1 ?_)<;>try refine NQ ?_)|refine wT6 ?_|with_reducible intro Q' hQ'|(refine GC ?_ ?_<;>intro hc)|simp only [laq])
 refine cp_loopS [2,3,5,8,9,10,11,12,13,14,15,16,17,18,19,20] (fun a:Nat=>l.length - a) (fun a=>a<=l.length) (fun a=>[(8,I a),(2,I (sumK (l.take a))),(3,I (sumY (l.take a)))]) (fun a=>[(0,⟨a,.x⟩)]) 0 (Nat.zero_le _) (by exact Gh.W) ?_;intro a ha;refine ST0 ?_
 by_cases hlt:a < l.length
 ·have q1:decide ((a:Int) < (l.length:Int))=true:=by simp;omega
  have q2:IntKind.i64.wrap ((a:Int) + 1)=((a + 1:Nat):Int):=wrap_i64 (by omega) (by omega);have hr:(l.map eShr)[a]? = some (eShr l[a]):=by rw [List.getElem?_map,List.getElem?_eq_getElem hlt];rfl
  have hp:=hs _ (List.getElem_mem hlt);simp only [shrS,Bool.and_eq_true,decide_eq_true_eq] at hp;have hc:=sum_le (l:=l.take a) fun p hp=>hs p (List.mem_of_mem_take hp)
  rw [List.length_take] at hc;have e1:sumK (l.take (a + 1))=sumK (l.take a) + l[a].keys:=by rw [List.take_succ_eq_append_getElem hlt,(sum_app _ _).1];simp [sumK]
  have e2:sumY (l.take (a + 1))=sumY (l.take a) + l[a].spc:=by rw [List.take_succ_eq_append_getElem hlt,(sum_app _ _).2];simp [sumY]
  have q3:IntKind.i64.wrap (sumK (l.take a) + l[a].keys)=sumK (l.take (a + 1)):=by rw [e1];exact wrap_i64 (by omega) (by omega)
  have q4:IntKind.i64.wrap (sumY (l.take a) + l[a].spc)=sumY (l.take (a + 1)):=by rw [e2];exact wrap_i64 (by omega) (by omega)
  generalize l[a]=p at *
  repeat' (first|((first|refine wA1 ?_|(refine GA ?_ ?_<;>intro hg)|(refine GV ?_;intros;simp only [nz])|refine wA6 ?_|refine wD1 ?_)<;>(try simp only [q1,q2,q3,q4,nq,Nat.reduceBEq,Nat.reduceAdd,Nat.reduceSub]))|refine wT6 ?_|with_reducible intro Q' hQ'|(refine GC ?_ ?_<;>intro hc)|simp only [laq])
  exact ⟨a + 1,by omega,by omega,by exact Gh.W⟩
 ·obtain rfl:a=l.length:=by omega
  have q1:decide ((l.length:Int) < (l.length:Int))=false:=by simp
  rw [List.take_length]
  repeat' (first|((first|refine wA1 ?_|(refine GA ?_ ?_<;>intro hg)|(refine GV ?_;intros;simp only [nz])|refine wA6 ?_|refine wD1 ?_)<;>try refine wN0 ?_)|refine wT6 ?_|with_reducible intro Q' hQ'|(refine GC ?_ ?_<;>intro hc)|simp only [laq])
  exact RA0
def fitQ (l:List Shr):Bool:=decide (sumK l<=64) && decide (sumY l<=4096)
theorem fits_ac (l:List Shr) (hl:l.length<=1000000) (hs:∀ x∈l,shrS x=true):AF 65 [shrA l] (B (fitQ l)):=by
 have h1:=sums_ac l hl hs;refine AC.E func65 ntmps65 ?_;intros
 repeat' (first|((first|refine wA1 ?_|(refine GA ?_ ?_<;>intro hg)|(refine GV ?_;intros;simp only [nz])|refine wA6 ?_)<;>try refine NQ ?_)|refine wT3 ?_|with_reducible intro Q' hQ'|(refine GC ?_ ?_<;>intro hc)|simp only [laq])
 all_goals (refine RB1 ?_;((refine ⟨congrArg B ?_,rfl⟩;(repeat (rename AC _ _ _ _ _=>hzz;clear hzz));rw [Bool.eq_iff_iff];simp [fitQ] at *;omega)))
def mayQ (l:List Shr):Bool:=ascQ l && fitQ l
theorem ascQ_all {l:List Shr} (h:ascQ l=true):∀ x∈l,shrS x=true:=by
 simp only [ascQ,Bool.and_eq_true] at h;exact asc_all h.2
theorem qmay_ac (l:List Shr) (hl:l.length<=1000000):AF 27 [shrA l] (B (mayQ l)):=by
 have h1:=shares_ac l hl;unfold mayQ
 cases hA:ascQ l with
 | false=>
  rw [hA] at h1;refine AC.E func27 ntmps27 ?_;intros
  repeat' (first|((first|refine wA1 ?_|(refine GA ?_ ?_<;>intro hg)|(refine GV ?_;intros;simp only [nz])|refine wA6 ?_)<;>try refine NQ ?_)|refine wT3 ?_|with_reducible intro Q' hQ'|(refine GC ?_ ?_<;>intro hc)|simp only [laq])
  exact RA0
 | true=>
  rw [hA] at h1;have h2:=fits_ac l hl (ascQ_all hA);refine AC.E func27 ntmps27 ?_;intros
  repeat' (first|((first|refine wA1 ?_|(refine GA ?_ ?_<;>intro hg)|(refine GV ?_;intros;simp only [nz])|refine wA6 ?_)<;>try refine NQ ?_)|refine wT3 ?_|with_reducible intro Q' hQ'|(refine GC ?_ ?_<;>intro hc)|simp only [laq])
  exact RA0
abbrev tIn':TypeId:=3
theorem qidx_ac_c (t:Int) (x:Shr):AC prog 183 [.ag (eShr x),.bp 0 0 0] [.c tIn' [I t]] (fun v bs'=>v=B (x.ten == t)/\bs'=[.c tIn' [I t]]):=by
 refine AC.E func183 ntmps183 ?_;intros;refine CP.SL ?_
 repeat' (first|((first|refine wA1 ?_|(refine GA ?_ ?_<;>intro hg)|(refine GV ?_;intros;simp only [nz])|refine wA6 ?_)<;>try refine NQ ?_)|refine wT3 ?_|with_reducible intro Q' hQ'|(refine GC ?_ ?_<;>intro hc)|simp only [laq])
 exact RA1
theorem qidx_ac (l:List Shr) (hl:l.length<=1000000)(t:Int):AC prog 182 [.sl none 3 (l.map eShr),.fn 183 [.bp 0 0 0]] [.c tIn' [I t]] (fun v bs'=>v=I (idxF (fun x:Shr=>x.ten == t) l)/\bs'=[.c tIn' [I t]]):=by
 refine AC.E func182 ntmps182 ?_;intros
 repeat' (first|((first|refine wA1 ?_|(refine GA ?_ ?_<;>intro hg)|(refine GV ?_;intros;simp only [nz])|refine wA6 ?_)<;>try refine NQ ?_)|refine wT3 ?_|with_reducible intro Q' hQ'|(refine GC ?_ ?_<;>intro hc)|simp only [laq])
 refine cp_loopS [4,5,8,9,10,11,12,13,14,15,16,17,18] (fun a:Nat=>l.length - a) (fun a=>a<=l.length/\∀ i x,i < a->l[i]? = some x->(fun x:Shr=>x.ten == t) x=false) (fun a=>[(8,I a)]) (fun _=>[]) 0 ⟨Nat.zero_le _,fun i x h=>absurd h (by omega)⟩ (by exact Gh.W) ?_;rintro a ⟨ha,hinv⟩;refine ST0 ?_
 by_cases hlt:a < l.length
 ·have q1:decide ((a:Int) < (l.length:Int))=true:=by simp;omega
  have q2:IntKind.i64.wrap ((a:Int) + 1)=((a + 1:Nat):Int):=wrap_i64 (by omega) (by omega);have hr:(l.map eShr)[a]? = some (eShr l[a]):=by rw [List.getElem?_map,List.getElem?_eq_getElem hlt];rfl
  have h1:=qidx_ac_c t l[a]
  cases hp:(fun x:Shr=>x.ten == t) l[a] with
  | true=>
   rw [show idxF (fun x:Shr=>x.ten == t) l=(a:Int) from idxF_at hlt hp hinv]
   (try dsimp only at hp);rw [hp] at h1
   generalize l[a]=x at *
   repeat' (first|((first|refine wA1 ?_|(refine GA ?_ ?_<;>intro hg)|(refine GV ?_;intros;simp only [nz])|refine wA6 ?_)<;>try refine wN1 ?_)|refine wT3 ?_|with_reducible intro Q' hQ'|(refine GC ?_ ?_<;>intro hc)|simp only [laq])
   exact RA1
  | false=>
   have hinv2:∀ i x,i < a + 1->l[i]? = some x->(fun x:Shr=>x.ten == t) x=false:=fun i x hi hx=>by
    by_cases hia:i=a
    ·subst hia;rw [List.getElem?_eq_getElem hlt] at hx;injection hx with hx;rw [←hx];exact hp
    ·exact hinv i x (by omega) hx
   (try dsimp only at hp);rw [hp] at h1
   generalize l[a]=x at *
   repeat' (first|((first|refine wA1 ?_|(refine GA ?_ ?_<;>intro hg)|(refine GV ?_;intros;simp only [nz])|refine wA6 ?_)<;>try refine wN1 ?_)|refine wT3 ?_|with_reducible intro Q' hQ'|(refine GC ?_ ?_<;>intro hc)|simp only [laq])
   exact ⟨a + 1,by omega,⟨by omega,hinv2⟩,by exact Gh.W⟩
 ·obtain rfl:a=l.length:=by omega
  have q1:decide ((l.length:Int) < (l.length:Int))=false:=by simp
  rw [show idxF (fun x:Shr=>x.ten == t) l = -1 from idxF_no fun x hx=>by obtain ⟨i,hi⟩:=List.mem_iff_getElem?.1 hx;exact hinv i x (List.getElem?_eq_some_iff.1 hi).1 hi]
  repeat' (first|((first|refine wA1 ?_|(refine GA ?_ ?_<;>intro hg)|(refine GV ?_;intros;simp only [nz])|refine wA6 ?_)<;>try refine wN0 ?_)|refine wT3 ?_|with_reducible intro Q' hQ'|(refine GC ?_ ?_<;>intro hc)|simp only [laq])
  exact RA1
theorem qat_ac (l:List Shr) (hl:l.length<=1000000) (t:Int):AF 131 [shrA l,I t] (I (idxF (fun x:Shr=>x.ten == t) l)):=by
 have h1:=qidx_ac l hl t;refine AC.E func131 ntmps131 ?_;intros;refine CP.SL ?_
 repeat' (first|((first|refine wA1 ?_|(refine GA ?_ ?_<;>intro hg)|(refine GV ?_;intros;simp only [nz])|refine wA6 ?_)<;>try refine NQ ?_)|refine wT3 ?_|with_reducible intro Q' hQ'|(refine GC ?_ ?_<;>intro hc)|simp only [laq])
 exact RA0
def ofQ (l:List Shr) (t:Int):Shr×Bool:=match l.find? (fun x=>x.ten == t) with
 | some x=>(x,true)
 | none=>(⟨0,0,0⟩,false)
theorem ofQ_at {l:List Shr} {t:Int} {n:Nat} {x:Shr} (h:l[n]? = some x) (hp:(x.ten == t)=true) (hn:∀ i y,i < n->l[i]? = some y->(y.ten == t)=false):ofQ l t=(x,true):=by
 obtain ⟨hl,rfl⟩:=List.getElem?_eq_some_iff.1 h
 have:l.find? (fun x=>x.ten == t)=some l[n]:=List.find?_eq_some_iff_getElem.2 ⟨hp,n,hl,rfl,fun j hj=>by
  have:=hn j l[j] hj (List.getElem?_eq_getElem (by omega));simp [this]⟩
 unfold ofQ;rw [this]
theorem ofQ_no {l:List Shr} {t:Int} (hn:∀ x∈l,(x.ten == t)=false):ofQ l t=(⟨0,0,0⟩,false):=by
 have:l.find? (fun x=>x.ten == t)=none:=List.find?_eq_none.2 fun x hx=>by simp [hn x hx]
 unfold ofQ;rw [this]
theorem qof_ac (l:List Shr) (hl:l.length<=1000000) (t:Int):AF 69 [shrA l,I t] (.tu [.ag (eShr (ofQ l t).1),B (ofQ l t).2]):=by
 have h1:=qat_ac l hl t;rcases idxF_cases (fun x:Shr=>x.ten == t) l with ⟨e,hn⟩|⟨n,x,e,hx,hp,hn⟩
 ·rw [e] at h1;rw [ofQ_no hn];refine AC.E func69 ntmps69 ?_;intros;refine CP.SL ?_
  repeat' (first|((first|refine wA1 ?_|(refine GA ?_ ?_<;>intro hg)|(refine GV ?_;intros;simp only [nz])|refine wA6 ?_)<;>try refine NQ ?_)|refine wT3 ?_|with_reducible intro Q' hQ'|(refine GC ?_ ?_<;>intro hc)|simp only [laq])
  exact RA0
 ·rw [e] at h1;rw [ofQ_at hx hp hn];have hr:(l.map eShr)[n]? = some (eShr x):=by rw [List.getElem?_map,hx];rfl
  have q1:decide (0<=(n:Int))=true:=decide_eq_true (by omega);have hnl:=(List.getElem?_eq_some_iff.1 hx).1;refine AC.E func69 ntmps69 ?_;intros;refine CP.SL ?_
  repeat' (first|((first|refine wA1 ?_|(refine GA ?_ ?_<;>intro hg)|(refine GV ?_;intros;simp only [nz])|refine wA6 ?_)<;>try refine wN0 ?_)|refine wT3 ?_|with_reducible intro Q' hQ'|(refine GC ?_ ?_<;>intro hc)|simp only [laq])
  exact RA0
def serS (n:Int):Bool:=decide (1<=n) && decide (n<=1099511627776)
theorem serial_ac (n:Int):AF 127 [I n] (B (serS n)):=by
 refine AC.E func127 ntmps127 ?_;intros
 repeat' (first|((first|refine wA1 ?_|(refine GA ?_ ?_<;>intro hg)|(refine GV ?_;intros;simp only [nz])|refine wA6 ?_)<;>try refine NQ ?_)|refine wT3 ?_|with_reducible intro Q' hQ'|(refine GC ?_ ?_<;>intro hc)|simp only [laq])
 all_goals (refine RB1 ?_;((refine ⟨congrArg B ?_,rfl⟩;(repeat (rename AC _ _ _ _ _=>hzz;clear hzz));rw [Bool.eq_iff_iff];simp [serS] at *;omega)))
def mayR (l:List Int):Bool:=decide (l.length<=32) && asc id geI serS none l
theorem rmay_ac (l:List Int) (hl:l.length<=1000000):AF 67 [.sl none 1 (l.map eI)] (B (mayR l)):=by
 by_cases hB:32 < l.length
 ·have q1:decide ((32:Int) < (l.length:Int))=true:=decide_eq_true (by omega);rw [show mayR l=false by unfold mayR;rw [decide_eq_false (by omega)];rfl];refine AC.E func67 ntmps67 ?_;intros
  repeat' (first|((first|refine wA1 ?_|(refine GA ?_ ?_<;>intro hg)|(refine GV ?_;intros;simp only [nz])|refine wA6 ?_)<;>try refine wN0 ?_)|refine wT3 ?_|with_reducible intro Q' hQ'|(refine GC ?_ ?_<;>intro hc)|simp only [laq])
  exact RA0
 have q1:decide ((32:Int) < (l.length:Int))=false:=decide_eq_false (by omega);have hM:mayR l=asc id geI serS none l:=by unfold mayR;rw [decide_eq_true (by omega)];rfl
 refine AC.E func67 ntmps67 ?_;intros
 repeat' (first|((first|refine wA1 ?_|(refine GA ?_ ?_<;>intro hg)|(refine GV ?_;intros;simp only [nz])|refine wA6 ?_)<;>try refine wN0 ?_)|refine wT3 ?_|with_reducible intro Q' hQ'|(refine GC ?_ ?_<;>intro hc)|simp only [laq])
 refine cp_loopS [2,3,4,10,11,12,13,14,15,16,17,18,19,20,21,22,23,24,25,26,27,28,29,30,31] (fun a:Nat=>(l).length - a) (fun a=>a<=(l).length/\asc id geI serS none (l)=asc id geI serS (prv id (l) a) ((l).drop a)) (fun a=>[(10,I a)]) (fun a=>[]) 0 ⟨Nat.zero_le _,rfl⟩ (by exact Gh.W) ?_;rintro a ⟨ha,hinv⟩;refine ST0 ?_
 by_cases hlt:a < (l).length
 ·have q2:decide ((a:Int) < ((l).length:Int))=true:=by simp;omega
  have q3:IntKind.i64.wrap ((a:Int) + 1)=((a + 1:Nat):Int):=wrap_i64 (by omega) (by omega);have hr:((l).map eI)[a]? = some (eI (l)[a]):=by rw [List.getElem?_map,List.getElem?_eq_getElem hlt];rfl
  have h2:=serial_ac (l)[a]
  cases hp:serS (l)[a] with
  | false=>
   have hb:=asc_bad (key:=id) (lt:=geI) (ok:=serS) hlt (by rw [hp];rfl);rw [hM,hinv,hb];rw [hp] at h2;generalize (l)[a]=p at *
   repeat' (first|((first|refine wA1 ?_|(refine GA ?_ ?_<;>intro hg)|(refine GV ?_;intros;simp only [nz])|refine wA6 ?_)<;>try refine wN4 ?_)|refine wT4 ?_|with_reducible intro Q' hQ'|(refine GC ?_ ?_<;>intro hc)|simp only [laq])
   exact RA0
  | true=>
  rw [hp] at h2;rcases Nat.eq_zero_or_pos a with rfl|hpos
  ·have hg:=asc_go (key:=id) (lt:=geI) (ok:=serS) hlt (by rw [hp];rfl);have q4:decide ((0:Int) < ((0:Nat):Int))=false:=rfl;generalize (l)[0]=p at *
   repeat' (first|((first|refine wA1 ?_|(refine GA ?_ ?_<;>intro hg)|(refine GV ?_;intros;simp only [nz])|refine wA6 ?_)<;>try refine wN10 ?_)|refine wT4 ?_|with_reducible intro Q' hQ'|(refine GC ?_ ?_<;>intro hc)|simp only [laq])
   exact ⟨1,by omega,⟨by omega,hinv.trans hg⟩,by exact Gh.W⟩
  ·have q4:decide ((0:Int) < (a:Int))=true:=by simp;omega
   have q5:IntKind.i64.wrap ((a:Int) - 1)=((a - 1:Nat):Int):=by rw [wrap_i64 (by omega) (by omega)];omega
   have hr2:((l).map eI)[a - 1]? = some (eI ((l)[a - 1]'(by omega))):=by rw [List.getElem?_map,List.getElem?_eq_getElem (by omega)];rfl
   have hpv:prv id (l) a=some (id ((l)[a - 1]'(by omega))):=by
    obtain ⟨b,rfl⟩:∃ b,a=b + 1:=⟨a - 1,by omega⟩
    show ((l)[b]?).map id=_
    rw [List.getElem?_eq_getElem (by omega)];rfl
   cases hq:geI (id ((l)[a - 1]'(by omega))) (id (l)[a]) with
   | false=>
    have hb:=asc_bad (key:=id) (lt:=geI) (ok:=serS) hlt (by rw [hp,hpv];exact hq);rw [hM,hinv,hb];generalize (l)[a]=p at *;generalize (l)[a - 1]'(by omega)=p0 at *;have hq2:decide (p<=p0)=true:=by simpa [geI] using hq
    repeat' (first|((first|refine wA1 ?_|(refine GA ?_ ?_<;>intro hg)|(refine GV ?_;intros;simp only [nz])|refine wA6 ?_)<;>try refine wN6 ?_)|refine wT4 ?_|with_reducible intro Q' hQ'|(refine GC ?_ ?_<;>intro hc)|simp only [laq])
    exact RA0
   | true=>
    have hg:=asc_go (key:=id) (lt:=geI) (ok:=serS) hlt (by rw [hp,hpv];exact hq);generalize (l)[a]=p at *;generalize (l)[a - 1]'(by omega)=p0 at *;have hq2:decide (p<=p0)=false:=by simpa [geI] using hq
    repeat' (first|((first|refine wA1 ?_|(refine GA ?_ ?_<;>intro hg)|(refine GV ?_;intros;simp only [nz])|refine wA6 ?_)<;>try refine wN6 ?_)|refine wT4 ?_|with_reducible intro Q' hQ'|(refine GC ?_ ?_<;>intro hc)|simp only [laq])
    exact ⟨a + 1,by omega,⟨by omega,hinv.trans hg⟩,by exact Gh.W⟩
 obtain rfl:a=(l).length:=by omega
 have q2:decide (((l).length:Int) < ((l).length:Int))=false:=by simp
 rw [hM,hinv,asc_end]
 repeat' (first|((first|refine wA1 ?_|(refine GA ?_ ?_<;>intro hg)|(refine GV ?_;intros;simp only [nz])|refine wA6 ?_)<;>try refine wN9 ?_)|refine wT4 ?_|with_reducible intro Q' hQ'|(refine GC ?_ ?_<;>intro hc)|simp only [laq])
 exact RA0
