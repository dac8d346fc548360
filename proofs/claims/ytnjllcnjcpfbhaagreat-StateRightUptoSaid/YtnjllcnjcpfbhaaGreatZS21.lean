/- Parts. -/
import Derived.Test.YtnjllcnjcpfbhaaGreatZS17
namespace Go.Proofs.YtnjllcnjcpfbhaaGreat
set_option linter.unusedVariables false
set_option linter.unusedSimpArgs false
open Go.RowKit Go.Proofs.Tryz
set_option maxRecDepth 100000
set_option maxHeartbeats 8000000
def sp0:Spc:=⟨0,0,[]⟩
def putP (s:Spc) (k v:List UInt8):Spc×Int:=if (lookP s ⟨k,v⟩).2.2=0 then withP s (lookP s ⟨k,v⟩).1 ((lookP s ⟨k,v⟩).1 + if (lookP s ⟨k,v⟩).2.1=true then 1 else 0) [⟨k,v⟩] else (sp0,(lookP s ⟨k,v⟩).2.2)
def delP (s:Spc) (k:List UInt8):Spc×Int:=if (lookP s ⟨k,[]⟩).2.2=0 then (if (lookP s ⟨k,[]⟩).2.1=true then withP s (lookP s ⟨k,[]⟩).1 ((lookP s ⟨k,[]⟩).1 + 1) [] else (sp0,110)) else (sp0,(lookP s ⟨k,[]⟩).2.2)
def swapP (s:Spc) (k old v:List UInt8):Spc×Int:=if (lookP s ⟨k,v⟩).2.2=0 then (if (lookP s ⟨k,v⟩).2.1=true then (match s.prs[(lookP s ⟨k,v⟩).1]? with
 | some p=>if p.val=old then withP s (lookP s ⟨k,v⟩).1 ((lookP s ⟨k,v⟩).1 + 1) [⟨k,v⟩] else (sp0,111)
 | none=>(sp0,0)) else (sp0,110)) else (sp0,(lookP s ⟨k,v⟩).2.2)
theorem lookP_m {s:Spc} {p:Pr} (h:(maySp s && prS p)=true):s.prs.length<=64/\prS p=true:=by
 simp only [Bool.and_eq_true] at h;have h1:=h.1;simp only [maySp,limS,Bool.and_eq_true,decide_eq_true_eq] at h1;exact ⟨by omega,h.2⟩
theorem sput_ac (s:Spc) (k v:List UInt8) (hs:s.small) (hk:k.length<=1000000) (hv:v.length<=1000000):AC prog 196 [.ag (eSp s),S k,S v] [] (fun r bs'=>r=.tu [.ag (eSp (putP s k v).1),I (putP s k v).2]/\bs'=[]):=by
 have h1:=slook_ac s ⟨k,v⟩ hs;unfold putP;have hls:∀ p∈[(⟨k,v⟩:Pr)],p.key.length<=1000000/\p.val.length<=1000000:=fun p hp=>by rw [List.mem_singleton.1 hp];exact ⟨hk,hv⟩
 rcases lookP_cases s ⟨k,v⟩ with ⟨e,_⟩|⟨hm,⟨e,_⟩|⟨n,x,e,hx,_⟩⟩
 ·rw [e] at h1 ⊢;refine AC.E func196 ntmps196 ?_;intros;iterate 4 refine CP.SL ?_
  repeat' (first|((first|refine wA1 ?_|(refine GA ?_ ?_<;>intro hg)|(refine GV ?_;intros;simp only [nz])|refine wA6 ?_)<;>try refine NQ ?_)|refine wT3 ?_|with_reducible intro Q' hQ'|(refine GC ?_ ?_<;>intro hc)|simp only [laq])
  exact RA0
 ·rw [e] at h1 ⊢;have hle:=atP_le s.prs k;have hm':=(lookP_m hm).1;dsimp only at h1 ⊢;rw [if_pos rfl,if_neg (by simp),Nat.add_zero];generalize (atP s.prs k).1=j at *;have h2:=swith_ac s j j [⟨k,v⟩] hle hle hs (by simp) hls (by omega);generalize withP s j j [⟨k,v⟩]=R at *;refine AC.E func196 ntmps196 ?_;intros;iterate 4 refine CP.SL ?_
  repeat' (first|((first|refine wA1 ?_|(refine GA ?_ ?_<;>intro hg)|(refine GV ?_;intros;simp only [nz])|refine wA6 ?_)<;>try refine NQ ?_)|refine wT3 ?_|with_reducible intro Q' hQ'|(refine GC ?_ ?_<;>intro hc)|simp only [laq])
  exact RA0
 ·rw [e] at h1 ⊢;have hm':=(lookP_m hm).1;have hle:=(List.getElem?_eq_some_iff.1 hx).1;dsimp only at h1 ⊢;rw [if_pos rfl,if_pos rfl];have q1:IntKind.i64.wrap ((n:Int) + 1)=((n + 1:Nat):Int):=wrap_i64 (by omega) (by omega);have h2:=swith_ac s n (n + 1) [⟨k,v⟩] (by omega) (by omega) hs (by simp) hls (by omega);generalize withP s n (n + 1) [⟨k,v⟩]=R at *;refine AC.E func196 ntmps196 ?_;intros;iterate 4 refine CP.SL ?_
  repeat' (first|((first|refine wA1 ?_|(refine GA ?_ ?_<;>intro hg)|(refine GV ?_;intros;simp only [nz])|refine wA6 ?_)<;>try refine wN0 ?_)|refine wT3 ?_|with_reducible intro Q' hQ'|(refine GC ?_ ?_<;>intro hc)|simp only [laq])
  exact RA0
theorem sdel_ac (s:Spc) (k:List UInt8) (hs:s.small):AC prog 198 [.ag (eSp s),S k] [] (fun r bs'=>r=.tu [.ag (eSp (delP s k).1),I (delP s k).2]/\bs'=[]):=by
 have h1:=slook_ac s ⟨k,[]⟩ hs;unfold delP;rcases lookP_cases s ⟨k,[]⟩ with ⟨e,_⟩|⟨hm,⟨e,_⟩|⟨n,x,e,hx,_⟩⟩
 ·rw [e] at h1 ⊢;refine AC.E func198 ntmps198 ?_;intros;iterate 4 refine CP.SL ?_
  repeat' (first|((first|refine wA1 ?_|(refine GA ?_ ?_<;>intro hg)|(refine GV ?_;intros;simp only [nz])|refine wA6 ?_)<;>try refine NQ ?_)|refine wT3 ?_|with_reducible intro Q' hQ'|(refine GC ?_ ?_<;>intro hc)|simp only [laq])
  exact RA0
 ·rw [e] at h1 ⊢;dsimp only at h1 ⊢;rw [if_pos rfl,if_neg (by simp)];generalize (atP s.prs k).1=j at *;refine AC.E func198 ntmps198 ?_;intros;iterate 4 refine CP.SL ?_
  repeat' (first|((first|refine wA1 ?_|(refine GA ?_ ?_<;>intro hg)|(refine GV ?_;intros;simp only [nz])|refine wA6 ?_)<;>try refine NQ ?_)|refine wT3 ?_|with_reducible intro Q' hQ'|(refine GC ?_ ?_<;>intro hc)|simp only [laq])
  exact RA0
 ·rw [e] at h1 ⊢;have hm':=(lookP_m hm).1;have hle:=(List.getElem?_eq_some_iff.1 hx).1;dsimp only at h1 ⊢;rw [if_pos rfl,if_pos rfl];have q1:IntKind.i64.wrap ((n:Int) + 1)=((n + 1:Nat):Int):=wrap_i64 (by omega) (by omega);have h2:=swith_ac s n (n + 1) [] (by omega) (by omega) hs (by simp) (fun p hp=>by cases hp) (by omega);generalize withP s n (n + 1) []=R at *;refine AC.E func198 ntmps198 ?_;intros;iterate 4 refine CP.SL ?_
  repeat' (first|((first|refine wA1 ?_|(refine GA ?_ ?_<;>intro hg)|(refine GV ?_;intros;simp only [nz])|refine wA6 ?_)<;>try refine wN0 ?_)|refine wT3 ?_|with_reducible intro Q' hQ'|(refine GC ?_ ?_<;>intro hc)|simp only [laq])
  exact RA0
theorem sswap_ac (s:Spc) (k old v:List UInt8) (hs:s.small) (hk:k.length<=1000000) (hv:v.length<=1000000):AC prog 197 [.ag (eSp s),S k,S old,S v] [] (fun r bs'=>r=.tu [.ag (eSp (swapP s k old v).1),I (swapP s k old v).2]/\bs'=[]):=by
 have h1:=slook_ac s ⟨k,v⟩ hs;unfold swapP;have hls:∀ p∈[(⟨k,v⟩:Pr)],p.key.length<=1000000/\p.val.length<=1000000:=fun p hp=>by rw [List.mem_singleton.1 hp];exact ⟨hk,hv⟩
 rcases lookP_cases s ⟨k,v⟩ with ⟨e,_⟩|⟨hm,⟨e,_⟩|⟨n,x,e,hx,_⟩⟩
 ·rw [e] at h1 ⊢;refine AC.E func197 ntmps197 ?_;intros;iterate 4 refine CP.SL ?_
  repeat' (first|((first|refine wA1 ?_|(refine GA ?_ ?_<;>intro hg)|(refine GV ?_;intros;simp only [nz])|refine wA6 ?_)<;>try refine NQ ?_)|refine wT3 ?_|with_reducible intro Q' hQ'|(refine GC ?_ ?_<;>intro hc)|simp only [laq])
  exact RA0
 ·rw [e] at h1 ⊢;dsimp only at h1 ⊢;rw [if_pos rfl,if_neg (by simp)];generalize (atP s.prs k).1=j at *;refine AC.E func197 ntmps197 ?_;intros;iterate 4 refine CP.SL ?_
  repeat' (first|((first|refine wA1 ?_|(refine GA ?_ ?_<;>intro hg)|(refine GV ?_;intros;simp only [nz])|refine wA6 ?_)<;>try refine NQ ?_)|refine wT3 ?_|with_reducible intro Q' hQ'|(refine GC ?_ ?_<;>intro hc)|simp only [laq])
  exact RA0
 ·rw [e] at h1 ⊢;have hm':=(lookP_m hm).1;have hle:=(List.getElem?_eq_some_iff.1 hx).1;dsimp only at h1 ⊢;rw [if_pos rfl,if_pos rfl];rw [hx];dsimp only;have hr:(s.prs.map ePr)[n]? = some (ePr x):=by rw [List.getElem?_map,hx];rfl
  have q1:IntKind.i64.wrap ((n:Int) + 1)=((n + 1:Nat):Int):=wrap_i64 (by omega) (by omega);have h2:=swith_ac s n (n + 1) [⟨k,v⟩] (by omega) (by omega) hs (by simp) hls (by omega);generalize withP s n (n + 1) [⟨k,v⟩]=R at *
  by_cases ho:x.val=old
  ·rw [if_pos ho];have q2:decide (x.val=old)=true:=decide_eq_true ho;refine AC.E func197 ntmps197 ?_;intros;iterate 4 refine CP.SL ?_
   repeat' (first|((first|refine wA1 ?_|(refine GA ?_ ?_<;>intro hg)|(refine GV ?_;intros;simp only [nz])|refine wA5 ?_|refine wA6 ?_)<;>try refine wN1 ?_)|refine wT3 ?_|with_reducible intro Q' hQ'|(refine GC ?_ ?_<;>intro hc)|simp only [laq])
   exact RA0
  ·rw [if_neg ho];have q2:decide (x.val=old)=false:=decide_eq_false ho;refine AC.E func197 ntmps197 ?_;intros;iterate 4 refine CP.SL ?_
   repeat' (first|((first|refine wA1 ?_|(refine GA ?_ ?_<;>intro hg)|(refine GV ?_;intros;simp only [nz])|refine wA5 ?_|refine wA6 ?_)<;>try refine wN1 ?_)|refine wT3 ?_|with_reducible intro Q' hQ'|(refine GC ?_ ?_<;>intro hc)|simp only [laq])
   exact RA0
def newP (k b:Int):Spc×Int:=if limS k b=true then (⟨k,b,[]⟩,0) else (sp0,2)
theorem spnew_ac (k b:Int):AC prog 201 [I k,I b] [] (fun r bs'=>r=.tu [.ag (eSp (newP k b).1),I (newP k b).2]/\bs'=[]):=by
 have h1:=limits_ac k b;unfold newP
 cases h:limS k b with
 | true=>
  rw [h] at h1;rw [if_pos rfl];refine AC.E func201 ntmps201 ?_;intros;iterate 2 refine CP.SL ?_
  repeat' (first|((first|refine wA1 ?_|(refine GA ?_ ?_<;>intro hg)|(refine GV ?_;intros;simp only [nz])|refine wA6 ?_)<;>try refine NQ ?_)|refine wT3 ?_|with_reducible intro Q' hQ'|(refine GC ?_ ?_<;>intro hc)|simp only [laq])
  exact RA0
 | false=>
  rw [h] at h1;rw [if_neg (by simp)];refine AC.E func201 ntmps201 ?_;intros;iterate 2 refine CP.SL ?_
  repeat' (first|((first|refine wA1 ?_|(refine GA ?_ ?_<;>intro hg)|(refine GV ?_;intros;simp only [nz])|refine wA6 ?_)<;>try refine NQ ?_)|refine wT3 ?_|with_reducible intro Q' hQ'|(refine GC ?_ ?_<;>intro hc)|simp only [laq])
  exact RA0
def listP (s:Spc) (from_:List UInt8) (n:Int):List (List UInt8):=if maySp s=true then ((s.prs.drop (atP s.prs from_).1).take n.toNat).map Pr.key else []
theorem slist_ac (s:Spc) (from_:List UInt8) (n:Int) (hs:s.small) (hl:s.prs.length<=100000):AC prog 199 [.ag (eSp s),S from_,I n] [] (fun r bs'=>r=ts none (listP s from_ n)/\bs'=[]):=by
 have h1:=smay_ac s hs.l hs.s;have h2:=sat_ac s from_ hs.l;unfold listP
 cases hm:maySp s with
 | false=>
  rw [hm] at h1;rw [if_neg (by simp)];refine AC.E func199 ntmps199 ?_;intros;iterate 2 refine CP.SL ?_
  repeat' (first|((first|refine wA1 ?_|(refine GA ?_ ?_<;>intro hg)|(refine GV ?_;intros;simp only [nz])|refine wA6 ?_)<;>try refine NQ ?_)|refine wT3 ?_|with_reducible intro Q' hQ'|(refine GC ?_ ?_<;>intro hc)|simp only [laq])
  exact RA0
 | true=>
  rw [hm] at h1;rw [if_pos rfl];have hle:=atP_le s.prs from_;generalize (atP s.prs from_).1=i at *;generalize (atP s.prs from_).2=ok at *;have e9:(s.prs.drop i).take (s.prs.length - i)=s.prs.drop i:=List.take_of_length_le (by simp);refine AC.E func199 ntmps199 ?_;intros;iterate 2 refine CP.SL ?_
  repeat' (first|((first|refine wA1 ?_|(refine GA ?_ ?_<;>intro hg)|(refine GV ?_;intros;simp only [nz])|refine wA6 ?_)<;>try refine wN12 ?_)|refine wT3 ?_|with_reducible intro Q' hQ'|(refine GC ?_ ?_<;>intro hc)|simp only [laq])
  have hdl:(s.prs.drop i).length<=100000:=by rw [List.length_drop];omega
  generalize s.prs.drop i=D at *;refine CP.gh (gh_nil (t:=7) (e:=tSg) (k:=1) rfl) ?_;refine NX ?_;iterate 2 refine CP.SL ?_
  clear h1 h2;refine cp_loopS [7,11,26,27,28,29,30,31,32,33,34,35,36,37,38,39] (fun a:Nat=>D.length - a) (fun a=>a<=D.length/\a<=n.toNat) (fun a=>[(26,I a),(7,.hd 1 (a + 1))]) (fun a=>[(1,⟨a + 1,.r tSg 1 (((D.take a).map Pr.key).map eT)⟩),(2,⟨a,.x⟩),(3,⟨a,.x⟩)]) 0 ⟨Nat.zero_le _,Nat.zero_le _⟩ (by exact Gh.W) ?_;rintro a ⟨ha,han⟩;refine ST0 ?_;have hro:∀ l:List (List UInt8),roE (l.map eT)=l.map eT:=roT
  by_cases hlt:a < D.length
  ·have q1:decide ((a:Int) < (D.length:Int))=true:=by simp;omega
   have q2:IntKind.i64.wrap ((a:Int) + 1)=((a + 1:Nat):Int):=wrap_i64 (by omega) (by omega);have hr:(D.map ePr)[a]? = some (ePr D[a]):=by rw [List.getElem?_map,List.getElem?_eq_getElem hlt];rfl
   have hlen:(((D.take a).map Pr.key).map eT).length=a:=by rw [List.length_map,List.length_map,List.length_take];omega
   have hlen2:((D.take a).map Pr.key).length=a:=by rw [List.length_map,List.length_take];omega
   have hlen3:(D.take a).length=a:=by rw [List.length_take];omega
   have hl1:(((D.take a).map Pr.key).map eT).length + 1<=1000000000:=by omega
   have e3:((D.take (a + 1)).map Pr.key).map eT=((D.take a).map Pr.key).map eT ++ [[S D[a].key]]:=by rw [List.take_succ_eq_append_getElem hlt,List.map_append,List.map_append];rfl
   generalize D[a]=p at *
   by_cases hb:n<=(a:Int)
   ·have q3:decide (n<=(a:Int))=true:=decide_eq_true hb;have ea:n.toNat=a:=by omega
    rw [ea];generalize (D.take a).map Pr.key=out at *;refine CP.gh (gh_fzS (b:=1) rfl) ?_;simp only [hro,nq,Nat.reduceBEq,Nat.reduceAdd,Nat.reduceSub]
    repeat' (first|((first|refine wA1 ?_|(refine GA ?_ ?_<;>intro hg)|(refine GV ?_;intros;simp only [nz])|refine wA6 ?_)<;>(try simp only [q1,q2,q3,hlen,hlen2,hlen3,nq,Nat.reduceBEq,Nat.reduceAdd,Nat.reduceSub]))|refine wT3 ?_|with_reducible intro Q' hQ'|(refine GC ?_ ?_<;>intro hc)|simp only [laq])
    exact RA0
   ·have q3:decide (n<=(a:Int))=false:=decide_eq_false hb
    repeat' (first|((first|refine wA1 ?_|(refine GA ?_ ?_<;>intro hg)|(refine GV ?_;intros;simp only [nz])|refine wA6 ?_)<;>(try simp only [q1,q2,q3,hlen,hlen2,hlen3,nq,Nat.reduceBEq,Nat.reduceAdd,Nat.reduceSub]))|refine wT3 ?_|with_reducible intro Q' hQ'|(refine GC ?_ ?_<;>intro hc)|simp only [laq])
    refine ⟨a + 1,by omega,⟨by omega,by omega⟩,?_⟩;rw [e3];exact Gh.W
  ·obtain rfl:a=D.length:=by omega
   have q1:decide ((D.length:Int) < (D.length:Int))=false:=by simp
   rw [List.take_of_length_le (by omega:D.length<=n.toNat),List.take_length];generalize D.map Pr.key=out at *;refine CP.gh (gh_fzS (b:=1) rfl) ?_;simp only [hro,nq,Nat.reduceBEq,Nat.reduceAdd,Nat.reduceSub]
   repeat' (first|((first|refine wA1 ?_|(refine GA ?_ ?_<;>intro hg)|(refine GV ?_;intros;simp only [nz])|refine wA6 ?_)<;>try refine wN0 ?_)|refine wT3 ?_|with_reducible intro Q' hQ'|(refine GC ?_ ?_<;>intro hc)|simp only [laq])
   exact RA0
