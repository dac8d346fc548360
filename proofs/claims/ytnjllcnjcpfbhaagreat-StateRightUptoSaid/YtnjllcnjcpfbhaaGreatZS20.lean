/- Parts. -/
import Derived.Test.YtnjllcnjcpfbhaaGreatZS16
namespace Go.Proofs.YtnjllcnjcpfbhaaGreat
set_option linter.unusedVariables false
set_option linter.unusedSimpArgs false
open Go.RowKit Go.Proofs.Tryz
set_option maxRecDepth 100000
set_option maxHeartbeats 8000000
theorem tcln_ac (a:List (List UInt8)) (ha:a.length<=100000000):AF 103 [.sl none 1 (a.map eT)] (.sl (some tSg) 1 (a.map eT)):=by
 refine AC.E func103 ntmps103 ?_;intros
 repeat' (first|((first|refine wA2 ?_|(refine GV ?_;intro c hnil;simp only [nz]))<;>try refine NX ?_)|refine wT2 ?_|with_reducible intro Q' hQ'|(refine GC ?_ ?_<;>intro hc)|simp only [laq])
 ·obtain rfl:a=[]:=by simpa using hnil hc
  exact RA0
 ·(refine RB1 ?_;(exact ⟨by simp,rfl⟩))
theorem pcopied_ac (r:Rep) (hk:r.keys.length<=1000000):AF 106 [.ag (eRp r)] (.ag (eRp r)):=by
 have h1:=(tcln_ac r.keys (by omega)).ro (r2:=ts none r.keys) (by simp only [AV.ro,roT]);refine AC.E func106 ntmps106 ?_;intros;iterate 3 refine CP.SL ?_
 repeat' (first|((first|refine wA1 ?_|(refine GA ?_ ?_<;>intro hg)|(refine GV ?_;intros;simp only [nz])|refine wA6 ?_)<;>try refine NQ ?_)|refine wT3 ?_|with_reducible intro Q' hQ'|(refine GC ?_ ?_<;>intro hc)|simp only [laq])
 exact RA0
theorem lidx_ac_c (t:Int) (x:Las):AC prog 165 [.ag (eLa x),.bp 0 0 0] [.c tIn' [I t]] (fun v bs'=>v=B (x.client == t)/\bs'=[.c tIn' [I t]]):=by
 refine AC.E func165 ntmps165 ?_;intros;refine CP.SL ?_
 repeat' (first|((first|refine wA1 ?_|(refine GA ?_ ?_<;>intro hg)|(refine GV ?_;intros;simp only [nz])|refine wA6 ?_)<;>try refine NQ ?_)|refine wT3 ?_|with_reducible intro Q' hQ'|(refine GC ?_ ?_<;>intro hc)|simp only [laq])
 exact RA1
theorem lidx_ac (l:List Las) (hl:l.length<=1000000)(t:Int):AC prog 113 [.sl none 77 (l.map eLa),.fn 165 [.bp 0 0 0]] [.c tIn' [I t]] (fun v bs'=>v=I (idxF (fun x:Las=>x.client == t) l)/\bs'=[.c tIn' [I t]]):=by
 refine AC.E func113 ntmps113 ?_;intros
 repeat' (first|((first|refine wA1 ?_|(refine GA ?_ ?_<;>intro hg)|(refine GV ?_;intros;simp only [nz])|refine wA6 ?_)<;>try refine NQ ?_)|refine wT3 ?_|with_reducible intro Q' hQ'|(refine GC ?_ ?_<;>intro hc)|simp only [laq])
 refine cp_loopS [4,5,8,9,10,11,12,13,14,15,16,17,18] (fun a:Nat=>l.length - a) (fun a=>a<=l.length/\∀ i x,i < a->l[i]? = some x->(fun x:Las=>x.client == t) x=false) (fun a=>[(8,I a)]) (fun _=>[]) 0 ⟨Nat.zero_le _,fun i x h=>absurd h (by omega)⟩ (by exact Gh.W) ?_;rintro a ⟨ha,hinv⟩;refine ST0 ?_
 by_cases hlt:a < l.length
 ·have q1:decide ((a:Int) < (l.length:Int))=true:=by simp;omega
  have q2:IntKind.i64.wrap ((a:Int) + 1)=((a + 1:Nat):Int):=wrap_i64 (by omega) (by omega);have hr:(l.map eLa)[a]? = some (eLa l[a]):=by rw [List.getElem?_map,List.getElem?_eq_getElem hlt];rfl
  have h1:=lidx_ac_c t l[a]
  cases hp:(fun x:Las=>x.client == t) l[a] with
  | true=>
   rw [show idxF (fun x:Las=>x.client == t) l=(a:Int) from idxF_at hlt hp hinv]
   (try dsimp only at hp);rw [hp] at h1
   generalize l[a]=x at *
   repeat' (first|((first|refine wA1 ?_|(refine GA ?_ ?_<;>intro hg)|(refine GV ?_;intros;simp only [nz])|refine wA6 ?_)<;>try refine wN1 ?_)|refine wT3 ?_|with_reducible intro Q' hQ'|(refine GC ?_ ?_<;>intro hc)|simp only [laq])
   exact RA1
  | false=>
   have hinv2:∀ i x,i < a + 1->l[i]? = some x->(fun x:Las=>x.client == t) x=false:=fun i x hi hx=>by
    by_cases hia:i=a
    ·subst hia;rw [List.getElem?_eq_getElem hlt] at hx;injection hx with hx;rw [←hx];exact hp
    ·exact hinv i x (by omega) hx
   (try dsimp only at hp);rw [hp] at h1
   generalize l[a]=x at *
   repeat' (first|((first|refine wA1 ?_|(refine GA ?_ ?_<;>intro hg)|(refine GV ?_;intros;simp only [nz])|refine wA6 ?_)<;>try refine wN1 ?_)|refine wT3 ?_|with_reducible intro Q' hQ'|(refine GC ?_ ?_<;>intro hc)|simp only [laq])
   exact ⟨a + 1,by omega,⟨by omega,hinv2⟩,by exact Gh.W⟩
 ·obtain rfl:a=l.length:=by omega
  have q1:decide ((l.length:Int) < (l.length:Int))=false:=by simp
  rw [show idxF (fun x:Las=>x.client == t) l = -1 from idxF_no fun x hx=>by obtain ⟨i,hi⟩:=List.mem_iff_getElem?.1 hx;exact hinv i x (List.getElem?_eq_some_iff.1 hi).1 hi]
  repeat' (first|((first|refine wA1 ?_|(refine GA ?_ ?_<;>intro hg)|(refine GV ?_;intros;simp only [nz])|refine wA6 ?_)<;>try refine wN0 ?_)|refine wT3 ?_|with_reducible intro Q' hQ'|(refine GC ?_ ?_<;>intro hc)|simp only [laq])
  exact RA1
abbrev idxL (l:List Las) (c:Int):Int:=idxF (fun x:Las=>x.client == c) l
theorem lat_ac (l:List Las) (hl:l.length<=1000000) (t:Int):AF 107 [lasA l,I t] (I (idxL l t)):=by
 have h1:=lidx_ac l hl t;refine AC.E func107 ntmps107 ?_;intros;refine CP.SL ?_
 repeat' (first|((first|refine wA1 ?_|(refine GA ?_ ?_<;>intro hg)|(refine GV ?_;intros;simp only [nz])|refine wA6 ?_)<;>try refine NQ ?_)|refine wT3 ?_|with_reducible intro Q' hQ'|(refine GC ?_ ?_<;>intro hc)|simp only [laq])
 exact RA0
def ofL (l:List Las) (c:Int):Int:=match l.find? (fun x=>x.client == c) with
 | some x=>x.id
 | none=>0
theorem find_at {α:Type} {p:α->Bool} {l:List α} {n:Nat} {x:α} (h:l[n]? = some x) (hp:p x=true) (hn:∀ i y,i < n->l[i]? = some y->p y=false):l.find? p=some x:=by
 obtain ⟨hl,rfl⟩:=List.getElem?_eq_some_iff.1 h
 exact List.find?_eq_some_iff_getElem.2 ⟨hp,n,hl,rfl,fun j hj=>by
  have:=hn j l[j] hj (List.getElem?_eq_getElem (by omega));simp [this]⟩
theorem find_no {α:Type} {p:α->Bool} {l:List α} (hn:∀ x∈l,p x=false):l.find? p=none:=List.find?_eq_none.2 fun x hx=>by simp [hn x hx]
theorem lof_ac (l:List Las) (hl:l.length<=1000000) (t:Int):AF 105 [lasA l,I t] (I (ofL l t)):=by
 have h1:=lat_ac l hl t;unfold idxL at h1;rcases idxF_cases (fun x:Las=>x.client == t) l with ⟨e,hn⟩|⟨n,x,e,hx,hp,hn⟩
 ·rw [e] at h1;rw [show ofL l t=0 by unfold ofL;rw [find_no hn]];refine AC.E func105 ntmps105 ?_;intros;refine CP.SL ?_
  repeat' (first|((first|refine wA1 ?_|(refine GA ?_ ?_<;>intro hg)|(refine GV ?_;intros;simp only [nz])|refine wA6 ?_)<;>try refine NQ ?_)|refine wT3 ?_|with_reducible intro Q' hQ'|(refine GC ?_ ?_<;>intro hc)|simp only [laq])
  exact RA0
 ·rw [e] at h1;rw [show ofL l t=x.id by unfold ofL;rw [find_at (p:=fun x:Las=>x.client == t) hx hp hn]];have hr:(l.map eLa)[n]? = some (eLa x):=by rw [List.getElem?_map,hx];rfl
  have q1:decide (0<=(n:Int))=true:=decide_eq_true (by omega);have hnl:=(List.getElem?_eq_some_iff.1 hx).1;refine AC.E func105 ntmps105 ?_;intros;refine CP.SL ?_
  repeat' (first|((first|refine wA1 ?_|(refine GA ?_ ?_<;>intro hg)|(refine GV ?_;intros;simp only [nz])|refine wA6 ?_)<;>try refine wN0 ?_)|refine wT3 ?_|with_reducible intro Q' hQ'|(refine GC ?_ ?_<;>intro hc)|simp only [laq])
  exact RA0
def askL (l:List Las) (c i:Int):Rep×Bool×Int:=if (mayL' l && fitL c i)=false then (rp0,false,2) else if i < ofL l c then (rp0,false,140) else if ofL l c < i then (rp0,false,0) else match l.find? (fun x=>x.client == c) with
 | some x=>(x.rep,true,0)
 | none=>(rp0,false,0)
theorem lask_ac (l:List Las) (hl:l.length<=1000000) (hk:∀ x∈l,x.rep.keys.length<=1000000) (c i:Int):AF 52 [lasA l,I c,I i] (.tu [.ag (eRp (askL l c i).1),B (askL l c i).2.1,I (askL l c i).2.2]):=by
 have h1:=lmay_ac l hl;have h2:=pfits_ac c i;have h3:=lof_ac l hl c
 cases hA:mayL' l with
 | false=>
  rw [hA] at h1;rw [show askL l c i=(rp0,false,2) from if_pos (by rw [hA];rfl)];refine AC.E func52 ntmps52 ?_;intros;iterate 3 refine CP.SL ?_
  repeat' (first|((first|refine wA1 ?_|(refine GA ?_ ?_<;>intro hg)|(refine GV ?_;intros;simp only [nz])|refine wA6 ?_)<;>try refine NQ ?_)|refine wT3 ?_|with_reducible intro Q' hQ'|(refine GC ?_ ?_<;>intro hc)|simp only [laq])
  exact RA0
 | true=>
 rw [hA] at h1
 cases hB:fitL c i with
 | false=>
  rw [hB] at h2;rw [show askL l c i=(rp0,false,2) from if_pos (by rw [hA,hB];rfl)];refine AC.E func52 ntmps52 ?_;intros;iterate 3 refine CP.SL ?_
  repeat' (first|((first|refine wA1 ?_|(refine GA ?_ ?_<;>intro hg)|(refine GV ?_;intros;simp only [nz])|refine wA6 ?_)<;>try refine NQ ?_)|refine wT3 ?_|with_reducible intro Q' hQ'|(refine GC ?_ ?_<;>intro hc)|simp only [laq])
  exact RA0
 | true=>
 rw [hB] at h2
 by_cases hC:i < ofL l c
 ·rw [show askL l c i=(rp0,false,140) by unfold askL;rw [hA,hB,if_neg (by simp),if_pos hC]];have q1:=decide_eq_true hC;generalize ofL l c=o at *;refine AC.E func52 ntmps52 ?_;intros;iterate 3 refine CP.SL ?_
  repeat' (first|((first|refine wA1 ?_|(refine GA ?_ ?_<;>intro hg)|(refine GV ?_;intros;simp only [nz])|refine wA6 ?_)<;>try refine wN0 ?_)|refine wT3 ?_|with_reducible intro Q' hQ'|(refine GC ?_ ?_<;>intro hc)|simp only [laq])
  exact RA0
 have q1:=decide_eq_false hC
 by_cases hD:ofL l c < i
 ·rw [show askL l c i=(rp0,false,0) by unfold askL;rw [hA,hB,if_neg (by simp),if_neg hC,if_pos hD]];have q2:=decide_eq_true hD;generalize ofL l c=o at *;refine AC.E func52 ntmps52 ?_;intros;iterate 3 refine CP.SL ?_
  repeat' (first|((first|refine wA1 ?_|(refine GA ?_ ?_<;>intro hg)|(refine GV ?_;intros;simp only [nz])|refine wA6 ?_)<;>try refine wN1 ?_)|refine wT3 ?_|with_reducible intro Q' hQ'|(refine GC ?_ ?_<;>intro hc)|simp only [laq])
  exact RA0
 have q2:=decide_eq_false hD;have h4:=lat_ac l hl c;unfold idxL at h4;rcases idxF_cases (fun x:Las=>x.client == c) l with ⟨e,hn⟩|⟨n,x,e,hx,hp,hn⟩
 ·exfalso;have h0:ofL l c=0:=by unfold ofL;rw [find_no hn]
  simp only [fitL,Bool.and_eq_true,decide_eq_true_eq] at hB;omega
 ·rw [e] at h4;rw [show askL l c i=(x.rep,true,0) by unfold askL;rw [hA,hB,if_neg (by simp),if_neg hC,if_neg hD,find_at (p:=fun x:Las=>x.client == c) hx hp hn]];have hr:(l.map eLa)[n]? = some (eLa x):=by rw [List.getElem?_map,hx];rfl
  have hnl:=(List.getElem?_eq_some_iff.1 hx).1;have h5:=pcopied_ac x.rep (hk x (List.mem_of_getElem? hx));generalize ofL l c=o at *;refine AC.E func52 ntmps52 ?_;intros;iterate 3 refine CP.SL ?_
  repeat' (first|((first|refine wA1 ?_|(refine GA ?_ ?_<;>intro hg)|(refine GV ?_;intros;simp only [nz])|refine wA6 ?_)<;>try refine wN1 ?_)|refine wT3 ?_|with_reducible intro Q' hQ'|(refine GC ?_ ?_<;>intro hc)|simp only [laq])
  exact RA0
abbrev cB' (c:Int):Bx:=.c tIn' [I c]
theorem note1_c (c:Int) (x:Las):AC prog 114 [.ag (eLa x),.bp 0 0 0] [cB' c] (fun v bs'=>v=B (decide (c < x.client))/\bs'=[cB' c]):=by
 refine AC.E func114 ntmps114 ?_;intros;refine CP.SL ?_
 repeat' (first|((first|refine wA1 ?_|(refine GA ?_ ?_<;>intro hg)|(refine GV ?_;intros;simp only [nz])|refine wA6 ?_)<;>try refine NQ ?_)|refine wT3 ?_|with_reducible intro Q' hQ'|(refine GC ?_ ?_<;>intro hc)|simp only [laq])
 exact RA1
abbrev tLa:TypeId:=131
theorem lnidx_ac (l:List Las) (hl:l.length<=1000000)(cc:Int):AC prog 113 [.hd 0 0,.fn 114 [.bp 1 0 0]] [.r tLa 77 (l.map eLa),cB' cc] (fun v bs'=>v=I (idxF (fun y=>decide (cc < y.client)) l)/\bs'=[.r tLa 77 (l.map eLa),cB' cc]):=by
 refine AC.E func113 ntmps113 ?_;intros
 repeat' (first|((first|refine wA1 ?_|(refine GA ?_ ?_<;>intro hg)|(refine GV ?_;intros;simp only [nz])|refine wA6 ?_)<;>try refine NQ ?_)|refine wT3 ?_|with_reducible intro Q' hQ'|(refine GC ?_ ?_<;>intro hc)|simp only [laq])
 refine cp_loopS [4,5,8,9,10,11,12,13,14,15,16,17,18] (fun a:Nat=>l.length - a) (fun a=>a<=l.length/\∀ i x,i < a->l[i]? = some x->(fun y=>decide (cc < y.client)) x=false) (fun a=>[(8,I a)]) (fun _=>[]) 0 ⟨Nat.zero_le _,fun i x h=>absurd h (by omega)⟩ (by exact Gh.W) ?_;rintro a ⟨ha,hinv⟩;refine ST0 ?_
 by_cases hlt:a < l.length
 ·have q1:decide ((a:Int) < (l.length:Int))=true:=by simp;omega
  have q2:IntKind.i64.wrap ((a:Int) + 1)=((a + 1:Nat):Int):=wrap_i64 (by omega) (by omega);have hr:(l.map eLa)[a]? = some (eLa l[a]):=by rw [List.getElem?_map,List.getElem?_eq_getElem hlt];rfl
  have h1:=note1_c cc l[a]
  cases hp:(fun y=>decide (cc < y.client)) l[a] with
  | true=>
   rw [show idxF (fun y=>decide (cc < y.client)) l=(a:Int) from idxF_at hlt hp hinv]
   (try dsimp only at hp);rw [hp] at h1
   generalize l[a]=x at *
   repeat' (first|((first|refine wA1 ?_|(refine GA ?_ ?_<;>intro hg)|(refine GV ?_;intros;simp only [nz])|refine wA6 ?_)<;>try refine wN1 ?_)|refine wT3 ?_|with_reducible intro Q' hQ'|(refine GC ?_ ?_<;>intro hc)|simp only [laq])
   (exact RetQ.A [(0,0),(1,0)] (by exact ⟨rfl,rfl⟩))
  | false=>
   have hinv2:∀ i x,i < a + 1->l[i]? = some x->(fun y=>decide (cc < y.client)) x=false:=fun i x hi hx=>by
    by_cases hia:i=a
    ·subst hia;rw [List.getElem?_eq_getElem hlt] at hx;injection hx with hx;rw [←hx];exact hp
    ·exact hinv i x (by omega) hx
   (try dsimp only at hp);rw [hp] at h1
   generalize l[a]=x at *
   repeat' (first|((first|refine wA1 ?_|(refine GA ?_ ?_<;>intro hg)|(refine GV ?_;intros;simp only [nz])|refine wA6 ?_)<;>try refine wN1 ?_)|refine wT3 ?_|with_reducible intro Q' hQ'|(refine GC ?_ ?_<;>intro hc)|simp only [laq])
   exact ⟨a + 1,by omega,⟨by omega,hinv2⟩,by exact Gh.W⟩
 ·obtain rfl:a=l.length:=by omega
  have q1:decide ((l.length:Int) < (l.length:Int))=false:=by simp
  rw [show idxF (fun y=>decide (cc < y.client)) l = -1 from idxF_no fun x hx=>by obtain ⟨i,hi⟩:=List.mem_iff_getElem?.1 hx;exact hinv i x (List.getElem?_eq_some_iff.1 hi).1 hi]
  repeat' (first|((first|refine wA1 ?_|(refine GA ?_ ?_<;>intro hg)|(refine GV ?_;intros;simp only [nz])|refine wA6 ?_)<;>try refine wN0 ?_)|refine wT3 ?_|with_reducible intro Q' hQ'|(refine GC ?_ ?_<;>intro hc)|simp only [laq])
  (exact RetQ.A [(0,0),(1,0)] (by exact ⟨rfl,rfl⟩))
