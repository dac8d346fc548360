/- Parts. -/
import Derived.Test.YtnjllcnjcpfbhaaGreatZS19
import Derived.Test.YtnjllcnjcpfbhaaGreatZS21
import Derived.Test.YtnjllcnjcpfbhaaGreatZS27
import Derived.Test.YtnjllcnjcpfbhaaGreatZS29
namespace Go.Proofs.YtnjllcnjcpfbhaaGreat
set_option linter.unusedVariables false
set_option linter.unusedSimpArgs false
open Go.RowKit Go.Proofs.Tryz
set_option maxRecDepth 100000
set_option maxHeartbeats 8000000
abbrev tSt:TypeId:=35
abbrev eAs (q:Req) (root:List UInt8) (st by_:Int):List AV:=[U q.op,bs none q.tok,S q.key,S q.val,S q.old,I q.n,I q.ten,I q.keys,I q.spc,U q.g.rts,I q.g.exp,I q.g.ser,bs none root,I st,I by_]
abbrev stB (s:St):Bx:=.c tSt (eStO s)
def failR (e:Int):Rep:={ rp0 with err:=e }
theorem fails_ac (e:Int):AF 108 [I e] (.ag (eRp (failR e))):=by
 refine AC.E func108 ntmps108 ?_;intros
 repeat' (first|((first|refine wA1 ?_|(refine GA ?_ ?_<;>intro hg)|(refine GV ?_;intros;simp only [nz])|refine wA6 ?_)<;>try refine NQ ?_)|refine wT3 ?_|with_reducible intro Q' hQ'|(refine GC ?_ ?_<;>intro hc)|simp only [laq])
 exact RA0
def oGet (s:St) (q:Req) (t:Ten):Rep:={ rp0 with err:=(getP t.spc q.key).2,val:=(getP t.spc q.key).1 }
theorem oget_ac (s:St) (q:Req) (root:List UInt8) (st:Int) (n:Nat) (t:Ten) (hn:s.tens[n]? = some t) (ht:t.small):AC prog 169 [.ag (eAs q root st n),.bp 0 0 0] [stB s] (fun v bs'=>v=.ag (eRp (oGet s q t))/\bs'=[stB s]):=by
 have h1:=sget_ac t.spc q.key ⟨ht.p,ht.s⟩;have hnl:=(List.getElem?_eq_some_iff.1 hn).1;have hr:(s.tens.map eTe)[n]? = some (eTe t):=by rw [List.getElem?_map,hn];rfl
 unfold oGet;generalize getP t.spc q.key=G at *;refine AC.E func169 ntmps169 ?_;intros;iterate 2 refine CP.SL ?_
 repeat' (first|((first|refine wA1 ?_|(refine GA ?_ ?_<;>intro hg)|(refine GV ?_;intros;simp only [nz])|refine wA6 ?_|refine wD1 ?_)<;>try refine NQ ?_)|refine wT6 ?_|with_reducible intro Q' hQ'|(refine GC ?_ ?_<;>intro hc)|simp only [laq])
 exact RA1
def oList (q:Req) (t:Ten):Rep:={ rp0 with keys:=listP t.spc q.key q.n }
theorem olist_ac (s:St) (q:Req) (root:List UInt8) (st:Int) (n:Nat) (t:Ten) (hn:s.tens[n]? = some t) (ht:t.small) (hp:t.spc.prs.length<=100000):AC prog 171 [.ag (eAs q root st n),.bp 0 0 0] [stB s] (fun v bs'=>v=.ag (eRp (oList q t))/\bs'=[stB s]):=by
 have h1:=slist_ac t.spc q.key q.n ⟨ht.p,ht.s⟩ hp;have hnl:=(List.getElem?_eq_some_iff.1 hn).1;have hr:(s.tens.map eTe)[n]? = some (eTe t):=by rw [List.getElem?_map,hn];rfl
 unfold oList;generalize listP t.spc q.key q.n=G at *;refine AC.E func171 ntmps171 ?_;intros;iterate 2 refine CP.SL ?_
 repeat' (first|((first|refine wA1 ?_|(refine GA ?_ ?_<;>intro hg)|(refine GV ?_;intros;simp only [nz])|refine wA6 ?_|refine wD1 ?_)<;>try refine NQ ?_)|refine wT6 ?_|with_reducible intro Q' hQ'|(refine GC ?_ ?_<;>intro hc)|simp only [laq])
 exact RA1
def oAudit (s:St) (q:Req):Rep:={ rp0 with err:=(atL s.links q.n).2,lnk:=(atL s.links q.n).1 }
theorem oaudit_ac (s:St) (q:Req) (root:List UInt8) (st:Int) (n:Nat) (hl:s.links.length<=1000000):AC prog 176 [.ag (eAs q root st n),.bp 0 0 0] [stB s] (fun v bs'=>v=.ag (eRp (oAudit s q))/\bs'=[stB s]):=by
 have h1:=aat_ac s.links hl q.n;unfold oAudit;generalize atL s.links q.n=G at *;refine AC.E func176 ntmps176 ?_;intros;iterate 4 refine CP.SL ?_
 repeat' (first|((first|refine wA1 ?_|(refine GA ?_ ?_<;>intro hg)|(refine GV ?_;intros;simp only [nz])|refine wA6 ?_|refine wD1 ?_)<;>try refine NQ ?_)|refine wT6 ?_|with_reducible intro Q' hQ'|(refine GC ?_ ?_<;>intro hc)|simp only [laq])
 exact RA1
def lnkS (s:St) (q:Req) (st a b c:Int):St:={ s with links:=addL s.links st q.op q.ten a b c }
theorem olink_ac (s:St) (q:Req) (root:List UInt8) (st by_ a b c:Int) (hl:s.links.length<=1000000) (hs:∀ x∈s.links,x.self.length=32):AC prog 204 [.ag (eAs q root st by_),.bp 0 0 0,I a,I b,I c] [stB s] (fun v bs'=>v=.tu []/\bs'=[stB (lnkS s q st a b c)]):=by
 have h1:=aadd_ac s.links hl hs st q.op q.ten a b c;unfold lnkS;generalize addL s.links st q.op q.ten a b c=L at *;refine AC.E func204 ntmps204 ?_;intros;iterate 2 refine CP.SL ?_
 repeat' (first|((first|refine wA1 ?_|(refine GA ?_ ?_<;>intro hg)|(refine GV ?_;intros;simp only [nz])|refine wA6 ?_|refine wD1 ?_)<;>try refine NQ ?_)|refine wT6 ?_|with_reducible intro Q' hQ'|(refine GC ?_ ?_<;>intro hc)|simp only [laq])
 exact RA1
theorem roTe (l:List Ten):roE (l.map eTe)=l.map eTe:=by rw [roE_map];exact List.map_congr_left fun x _=>by simp only [roC,AV.ro,roP,roI]
theorem fidx_some {α:Type} {p:α->Bool} {l:List α} {n:Nat} {x:α} (h1:l[n]? = some x) (h2:p x=true) (h3:∀ i y,i < n->l[i]? = some y->p y=false):l.findIdx? p=some n:=by
 obtain ⟨hl,rfl⟩:=List.getElem?_eq_some_iff.1 h1
 exact List.findIdx?_eq_some_iff_getElem.2 ⟨hl,h2,fun j hj=>by
  have:=h3 j l[j] hj (List.getElem?_eq_getElem (by omega));simp [this]⟩
def oRev (s:St) (q:Req) (st:Int):Rep×St:=
 match s.tens.findIdx? (fun x:Ten=>x.num == q.ten) with
 | none=>(failR 160,s)
 | some n=>match s.tens[n]? with
  | none=>(failR 160,s)
  | some t=>if (addR t.rev q.n).2=0 then (rp0,lnkS { s with tens:=s.tens.set n { t with rev:=(addR t.rev q.n).1 } } q st q.n 0 0) else (failR (addR t.rev q.n).2,s)
theorem orev_ac (s:St) (q:Req) (root:List UInt8) (st by_:Int) (hs:s.small) (hl:s.links.length<=1000000) (hx:∀ x∈s.links,x.self.length=32):AC prog 175 [.ag (eAs q root st by_),.bp 0 0 0] [stB s] (fun v bs'=>v=.ag (eRp (oRev s q st).1)/\bs'=[stB (oRev s q st).2]):=by
 have h1:=stat_ac s hs.t q.ten;unfold oRev;unfold idxT at h1;rcases idxF_cases (fun x:Ten=>x.num == q.ten) s.tens with ⟨e,hn⟩|⟨n,x,e,hx1,hp,hn⟩
 ·have hf:s.tens.findIdx? (fun x:Ten=>x.num == q.ten)=none:=List.findIdx?_eq_none_iff.2 hn;rw [hf];rw [e] at h1;have h2:=fails_ac 160;have hro:=roTe s.tens;refine AC.E func175 ntmps175 ?_;intros;iterate 2 refine CP.SL ?_
  repeat' (first|((first|refine wA1 ?_|(refine GA ?_ ?_<;>intro hg)|(refine GV ?_;intros;simp only [nz])|refine wA6 ?_|refine wD1 ?_)<;>try refine NQ ?_)|refine wT6 ?_|with_reducible intro Q' hQ'|(refine GC ?_ ?_<;>intro hc)|simp only [laq])
  exact RA1
 ·have hf:=fidx_some hx1 hp hn;rw [hf];dsimp only;rw [hx1];dsimp only;rw [e] at h1;have hnl:=(List.getElem?_eq_some_iff.1 hx1).1;have hxm:=List.mem_of_getElem? hx1;have h3:=radd_ac x.rev q.n (hs.s x hxm).r;have hr:(s.tens.map eTe)[n]? = some (eTe x):=by rw [List.getElem?_map,hx1];rfl
  have q5:decide ((n:Int) < 0)=false:=by simp
  have hro:=roTe s.tens;generalize addR x.rev q.n=A at *
  by_cases hA:A.2=0
  ·rw [if_pos hA];rw [hA] at h3;have q6:((0:Int) != 0)=false:=rfl;have h4:=olink_ac { s with tens:=s.tens.set n { x with rev:=A.1 } } q root st by_ q.n 0 0 hl hx;have e6:(s.tens.set n { x with rev:=A.1 }).map eTe=(s.tens.map eTe).set n (eTe { x with rev:=A.1 }):=List.map_set;unfold stB eStO at h4;dsimp only at h4 e6;rw [e6] at h4;refine AC.E func175 ntmps175 ?_;intros;iterate 2 refine CP.SL ?_
   repeat' (first|((first|refine wA1 ?_|(refine GA ?_ ?_<;>intro hg)|(refine GV ?_;intros;simp only [nz])|refine aC4 h4 ?_|refine wA6 ?_|refine wD4 ?_|refine dC3 h4 ?_)<;>(try simp only [q5,q6,spl,nq,Nat.reduceBEq,Nat.reduceAdd,Nat.reduceSub]))|refine wT6 ?_|with_reducible intro Q' hQ'|(refine GC ?_ ?_<;>intro hc)|simp only [laq])
   exact RA1
  ·rw [if_neg hA];have q6:(A.2 != 0)=true:=by simpa using hA
   have h2:=fails_ac A.2;refine AC.E func175 ntmps175 ?_;intros;iterate 2 refine CP.SL ?_
   repeat' (first|((first|refine wA1 ?_|(refine GA ?_ ?_<;>intro hg)|(refine GV ?_;intros;simp only [nz])|refine wA6 ?_|refine wD1 ?_)<;>(try simp only [q5,q6,nq,Nat.reduceBEq,Nat.reduceAdd,Nat.reduceSub]))|refine wT6 ?_|with_reducible intro Q' hQ'|(refine GC ?_ ?_<;>intro hc)|simp only [laq])
   exact RA1
def chgP (q:Req) (s:Spc):Spc×Int:=if q.op=2 then putP s q.key q.val else if q.op=3 then swapP s q.key q.old q.val else delP s q.key
def oChg (s:St) (q:Req) (n:Nat) (t:Ten):Rep×St:=(failR (chgP q t.spc).2,{ s with tens:=s.tens.set n { t with spc:=(chgP q t.spc).1 } })
theorem ochg_ac (s:St) (q:Req) (hq:q.small) (hk:q.key.length<=1000000) (hv:q.val.length<=1000000) (root:List UInt8) (st:Int) (n:Nat) (t:Ten) (hn:s.tens[n]? = some t) (ht:t.small):AC prog 170 [.ag (eAs q root st n),.bp 0 0 0] [stB s] (fun v bs'=>v=.ag (eRp (oChg s q n t).1)/\bs'=[stB (oChg s q n t).2]):=by
 have hnl:=(List.getElem?_eq_some_iff.1 hn).1;have hr:(s.tens.map eTe)[n]? = some (eTe t):=by rw [List.getElem?_map,hn];rfl
 have e6:∀ S:Spc,(s.tens.set n { t with spc:=S }).map eTe=(s.tens.map eTe).set n (eTe { t with spc:=S }):=fun _=>List.map_set
 unfold oChg;dsimp only at e6 ⊢;unfold stB eStO;dsimp only;rw [e6];have q1:decide ((n:Int) < 0)=false:=by simp
 by_cases h2:q.op=2
 ·have hc:chgP q t.spc=putP t.spc q.key q.val:=if_pos h2;have qa:((q.op.toNat:Int) == 2)=true:=by rw [h2];rfl
  have h:=sput_ac t.spc q.key q.val ⟨ht.p,ht.s⟩ hk hv;rw [←hc] at h;clear hc h2;have h1:=h;generalize chgP q t.spc=G at *;have h2:=fails_ac G.2;refine AC.E func170 ntmps170 ?_;intros;iterate 4 refine CP.SL ?_
  repeat' (first|((first|refine wA1 ?_|(refine GA ?_ ?_<;>intro hg)|(refine GV ?_;intros;simp only [nz])|refine wA6 ?_)<;>try refine NQ ?_)|refine wT8 ?_|with_reducible intro Q' hQ'|(refine GC ?_ ?_<;>intro hc)|simp only [laq])
  first|refine cp_drwX fun Q' hQ'=>?_|refine cp_drawX ?_
  iterate 8 refine DS0 ?_
  repeat' (first|((first|refine wA1 ?_|(refine GA ?_ ?_<;>intro hg)|(refine GV ?_;intros;simp only [nz])|refine wA6 ?_)<;>(try simp only [qa,nq,Nat.reduceBEq,Nat.reduceAdd,Nat.reduceSub]))|refine wT8 ?_|with_reducible intro Q' hQ'|(refine GC ?_ ?_<;>intro hc)|simp only [laq])
  first|refine cp_drwX fun Q' hQ'=>?_|refine cp_drawX ?_
  iterate 17 refine DS0 ?_
  refine DW.TK0 ?_;refine wN25 ?_
  repeat' (first|((first|refine wA1 ?_|(refine GA ?_ ?_<;>intro hg)|(refine GV ?_;intros;simp only [nz])|refine wA6 ?_|refine wD1 ?_)<;>try refine NQ ?_)|refine wT6 ?_|with_reducible intro Q' hQ'|(refine GC ?_ ?_<;>intro hc)|simp only [laq])
  exact RA1
 ·have qa:((q.op.toNat:Int) == 2)=false:=by
   rw [beq_eq_false_iff_ne];intro h;exact h2 (UInt8.toNat_inj.1 (by simpa using (by omega:q.op.toNat=2)))
  by_cases h3:q.op=3
  ·have hc:chgP q t.spc=swapP t.spc q.key q.old q.val:=by unfold chgP;rw [if_neg h2,if_pos h3]
   have qb:((q.op.toNat:Int) == 3)=true:=by rw [h3];rfl
   have h:=sswap_ac t.spc q.key q.old q.val ⟨ht.p,ht.s⟩ hk hv;rw [←hc] at h;clear hc h2 h3;have h1:=h;generalize chgP q t.spc=G at *;have h2:=fails_ac G.2;refine AC.E func170 ntmps170 ?_;intros;iterate 4 refine CP.SL ?_
   repeat' (first|((first|refine wA1 ?_|(refine GA ?_ ?_<;>intro hg)|(refine GV ?_;intros;simp only [nz])|refine wA6 ?_)<;>try refine NQ ?_)|refine wT8 ?_|with_reducible intro Q' hQ'|(refine GC ?_ ?_<;>intro hc)|simp only [laq])
   first|refine cp_drwX fun Q' hQ'=>?_|refine cp_drawX ?_
   iterate 8 refine DS0 ?_
   repeat' (first|((first|refine wA1 ?_|(refine GA ?_ ?_<;>intro hg)|(refine GV ?_;intros;simp only [nz])|refine wA6 ?_)<;>(try simp only [qa,qb,nq,Nat.reduceBEq,Nat.reduceAdd,Nat.reduceSub]))|refine wT8 ?_|with_reducible intro Q' hQ'|(refine GC ?_ ?_<;>intro hc)|simp only [laq])
   first|refine cp_drwX fun Q' hQ'=>?_|refine cp_drawX ?_
   iterate 20 refine DS0 ?_
   refine DW.TK0 ?_;refine wN25 ?_
   repeat' (first|((first|refine wA1 ?_|(refine GA ?_ ?_<;>intro hg)|(refine GV ?_;intros;simp only [nz])|refine wA6 ?_|refine wD1 ?_)<;>try refine NQ ?_)|refine wT6 ?_|with_reducible intro Q' hQ'|(refine GC ?_ ?_<;>intro hc)|simp only [laq])
   exact RA1
  ·have hc:chgP q t.spc=delP t.spc q.key:=by unfold chgP;rw [if_neg h2,if_neg h3]
   have qb:((q.op.toNat:Int) == 3)=false:=by
    rw [beq_eq_false_iff_ne];intro h;exact h3 (UInt8.toNat_inj.1 (by simpa using (by omega:q.op.toNat=3)))
   have h:=sdel_ac t.spc q.key ⟨ht.p,ht.s⟩;rw [←hc] at h;clear hc h2 h3;have h1:=h;generalize chgP q t.spc=G at *;have h2:=fails_ac G.2;refine AC.E func170 ntmps170 ?_;intros;iterate 4 refine CP.SL ?_
   repeat' (first|((first|refine wA1 ?_|(refine GA ?_ ?_<;>intro hg)|(refine GV ?_;intros;simp only [nz])|refine wA6 ?_)<;>try refine NQ ?_)|refine wT8 ?_|with_reducible intro Q' hQ'|(refine GC ?_ ?_<;>intro hc)|simp only [laq])
   first|refine cp_drwX fun Q' hQ'=>?_|refine cp_drawX ?_
   iterate 8 refine DS0 ?_
   repeat' (first|((first|refine wA1 ?_|(refine GA ?_ ?_<;>intro hg)|(refine GV ?_;intros;simp only [nz])|refine wA6 ?_)<;>(try simp only [qa,qb,nq,Nat.reduceBEq,Nat.reduceAdd,Nat.reduceSub]))|refine wT8 ?_|with_reducible intro Q' hQ'|(refine GC ?_ ?_<;>intro hc)|simp only [laq])
   first|refine cp_drwX fun Q' hQ'=>?_|refine cp_drawX ?_
   iterate 14 refine DS0 ?_
   refine DW.TK0 ?_;refine wN25 ?_
   repeat' (first|((first|refine wA1 ?_|(refine GA ?_ ?_<;>intro hg)|(refine GV ?_;intros;simp only [nz])|refine wA6 ?_|refine wD1 ?_)<;>try refine NQ ?_)|refine wT6 ?_|with_reducible intro Q' hQ'|(refine GC ?_ ?_<;>intro hc)|simp only [laq])
   exact RA1
