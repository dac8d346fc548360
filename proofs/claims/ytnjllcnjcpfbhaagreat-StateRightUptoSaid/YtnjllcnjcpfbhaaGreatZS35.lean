/- Parts. -/
import Derived.Test.YtnjllcnjcpfbhaaGreatZS28
import Derived.Test.YtnjllcnjcpfbhaaGreatZS32
namespace Go.Proofs.YtnjllcnjcpfbhaaGreat
set_option linter.unusedVariables false
set_option linter.unusedSimpArgs false
open Go.RowKit Go.Proofs.Tryz
set_option maxRecDepth 100000
set_option maxHeartbeats 8000000
theorem wN17 {G G':Prop} (K:G') (h:G'->G:=by (intro kz;simp only [q1,q5,nq,Nat.reduceBEq,Nat.reduceAdd,Nat.reduceSub];exact kz)):G:=h K
abbrev asB (q:Req) (root:List UInt8) (st by_:Int):Bx:=.c 185 (eAs q root st by_)
structure AskR where
 q:Req
 root:List UInt8
 st:Int
 by_:Int
abbrev AskR.B (a:AskR):Bx:=asB a.q a.root a.st a.by_
theorem ocre1_c (aa:AskR) (x:Ten):AC prog 202 [.ag (eTe x),.bp 0 0 0] [aa.B] (fun v bs'=>v=B (decide (aa.q.ten < x.num))/\bs'=[aa.B]):=by
 refine AC.E func202 ntmps202 ?_;intros;refine CP.SL ?_
 repeat' (first|((first|refine wA1 ?_|(refine GA ?_ ?_<;>intro hg)|(refine GV ?_;intros;simp only [nz])|refine wA6 ?_)<;>try refine NQ ?_)|refine wT3 ?_|with_reducible intro Q' hQ'|(refine GC ?_ ?_<;>intro hc)|simp only [laq])
 exact RA1
theorem stnidx_ac (l:List Ten) (hl:l.length<=1000000)(aa:AskR):AC prog 70 [.hd 0 0,.fn 202 [.bp 1 0 0]] [.r tTe 6 (l.map eTe),aa.B] (fun v bs'=>v=I (idxF (fun y=>decide (aa.q.ten < y.num)) l)/\bs'=[.r tTe 6 (l.map eTe),aa.B]):=by
 refine AC.E func70 ntmps70 ?_;intros
 repeat' (first|((first|refine wA1 ?_|(refine GA ?_ ?_<;>intro hg)|(refine GV ?_;intros;simp only [nz])|refine wA6 ?_)<;>try refine NQ ?_)|refine wT3 ?_|with_reducible intro Q' hQ'|(refine GC ?_ ?_<;>intro hc)|simp only [laq])
 refine cp_loopS [4,5,8,9,10,11,12,13,14,15,16,17,18] (fun a:Nat=>l.length - a) (fun a=>a<=l.length/\∀ i x,i < a->l[i]? = some x->(fun y=>decide (aa.q.ten < y.num)) x=false) (fun a=>[(8,I a)]) (fun _=>[]) 0 ⟨Nat.zero_le _,fun i x h=>absurd h (by omega)⟩ (by exact Gh.W) ?_;rintro a ⟨ha,hinv⟩;refine ST0 ?_
 by_cases hlt:a < l.length
 ·have q1:decide ((a:Int) < (l.length:Int))=true:=by simp;omega
  have q2:IntKind.i64.wrap ((a:Int) + 1)=((a + 1:Nat):Int):=wrap_i64 (by omega) (by omega);have hr:(l.map eTe)[a]? = some (eTe l[a]):=by rw [List.getElem?_map,List.getElem?_eq_getElem hlt];rfl
  have h1:=ocre1_c aa l[a]
  cases hp:(fun y=>decide (aa.q.ten < y.num)) l[a] with
  | true=>
   rw [show idxF (fun y=>decide (aa.q.ten < y.num)) l=(a:Int) from idxF_at hlt hp hinv]
   (try dsimp only at hp);rw [hp] at h1
   generalize l[a]=x at *
   repeat' (first|((first|refine wA1 ?_|(refine GA ?_ ?_<;>intro hg)|(refine GV ?_;intros;simp only [nz])|refine wA6 ?_)<;>try refine wN1 ?_)|refine wT3 ?_|with_reducible intro Q' hQ'|(refine GC ?_ ?_<;>intro hc)|simp only [laq])
   (exact RetQ.A [(0,0),(1,0)] (by exact ⟨rfl,rfl⟩))
  | false=>
   have hinv2:∀ i x,i < a + 1->l[i]? = some x->(fun y=>decide (aa.q.ten < y.num)) x=false:=fun i x hi hx=>by
    by_cases hia:i=a
    ·subst hia;rw [List.getElem?_eq_getElem hlt] at hx;injection hx with hx;rw [←hx];exact hp
    ·exact hinv i x (by omega) hx
   (try dsimp only at hp);rw [hp] at h1
   generalize l[a]=x at *
   repeat' (first|((first|refine wA1 ?_|(refine GA ?_ ?_<;>intro hg)|(refine GV ?_;intros;simp only [nz])|refine wA6 ?_)<;>try refine wN1 ?_)|refine wT3 ?_|with_reducible intro Q' hQ'|(refine GC ?_ ?_<;>intro hc)|simp only [laq])
   exact ⟨a + 1,by omega,⟨by omega,hinv2⟩,by exact Gh.W⟩
 ·obtain rfl:a=l.length:=by omega
  have q1:decide ((l.length:Int) < (l.length:Int))=false:=by simp
  rw [show idxF (fun y=>decide (aa.q.ten < y.num)) l = -1 from idxF_no fun x hx=>by obtain ⟨i,hi⟩:=List.mem_iff_getElem?.1 hx;exact hinv i x (List.getElem?_eq_some_iff.1 hi).1 hi]
  repeat' (first|((first|refine wA1 ?_|(refine GA ?_ ?_<;>intro hg)|(refine GV ?_;intros;simp only [nz])|refine wA6 ?_)<;>try refine wN0 ?_)|refine wT3 ?_|with_reducible intro Q' hQ'|(refine GC ?_ ?_<;>intro hc)|simp only [laq])
  (exact RetQ.A [(0,0),(1,0)] (by exact ⟨rfl,rfl⟩))
theorem AC.conv {P:Program} {fn:Nat} {args args':List AV} {bs:List Bx} {Q:AV->List Bx->Prop} (h:AC P fn args bs Q) (hc:∀ (w:World) (φ:Fi) (κ:Ka) (R:Nat->Prop) (vs:List Value) (S:Ct),RC w φ κ R args' vs S->RC w φ κ R args vs S):AC P fn args' bs Q:=
 ⟨h.1,fun w φ κ R vs gs Sa Sb a=>h.2 w φ κ R vs gs Sa Sb (hc w φ κ R vs Sa a)⟩
theorem RV.nlsE {w:World} {φ:Fi} {κ:Ka} {R:Nat->Prop} {e:TypeId} {k:Nat} {r r':List (List AV)} {v:Value} {S:Ct} (hn:NlE r r') (h:RV w φ κ R (.sl (some e) k r) v S):RV w φ κ R (.sl (some e) k r') v S:=by
 cases h with
 | ni=>cases hn;exact .ni
 | ne=>cases hn;exact .ne
 | om h1 h2 h3 h4 h5 h6 h7=>
  have hl:=hn.len;have:=RV.om (RE.nls hn h1) h2 (by omega) h4 h5 (by rw [hl];exact h6) h7
  rwa [hl] at this
theorem tinsN_ac (l:List Ten) (i:Nat) (n:Int) (S:Spc) (hi:i<=l.length) (hl:l.length<=100000):AF 203 [.sl (some tTe) 6 (l.map eTe),I i,.sl (some tTe) 6 [[I n,I 0,I S.keys,I S.bytes,prsA S.prs,.sc (.slice none 0 0)]]] (.sl (some tTe) 6 ((l.take i ++ [(⟨n,0,S,[]⟩:Ten)] ++ l.drop i).map eTe)):=
 (tins_ac l i ⟨n,0,S,[]⟩ hi hl).conv fun w φ κ R vs Sx h=>by
   cases h with
   | cons a1 a2 a3=>cases a2 with
    | cons b1 b2 b3=>cases b2 with
     | cons c1 c2 c3=>exact .cons a1 (.cons b1 (.cons (RV.nlsE (.cons (.same (.same (.same (.same (.same (.nl .nil)))))) .nil) c1) c2 c3) b3) a3
def oCre (s:St) (q:Req) (st:Int):Rep×St:=
 if (resQ s.sh ⟨q.ten,q.keys,q.spc⟩).2=0 then (rp0,lnkS { s with sh:=(resQ s.sh ⟨q.ten,q.keys,q.spc⟩).1,tens:=insL (fun y:Ten=>decide (q.ten < y.num)) ⟨q.ten,0,(newP q.keys q.spc).1,[]⟩ s.tens } q st q.keys q.spc 0)
 else (failR (resQ s.sh ⟨q.ten,q.keys,q.spc⟩).2,s)
theorem ocre_ac (s:St) (q:Req) (root:List UInt8) (st by_:Int) (hs:s.small) (hq:s.sh.length<=100000) (ht:s.tens.length<=100000) (hl:s.links.length<=1000000) (hx:∀ x∈s.links,x.self.length=32):AC prog 172 [.ag (eAs q root st by_),.bp 0 0 0] [stB s] (fun v bs'=>v=.ag (eRp (oCre s q st).1)/\bs'=[stB (oCre s q st).2]):=by
 have h1:=qReserve_ac s.sh ⟨q.ten,q.keys,q.spc⟩ hq;have h3:=spnew_ac q.keys q.spc;unfold oCre;generalize resQ s.sh ⟨q.ten,q.keys,q.spc⟩=R at *
 by_cases hR:R.2=0
 ·rw [if_pos hR];rw [hR] at h1;have q1:((0:Int) != 0)=false:=rfl;have h4:=stnidx_ac s.tens (by omega) ⟨q,root,st,by_⟩;have h5:=tinsN_ac s.tens (insI (fun y:Ten=>decide (q.ten < y.num)) s.tens) q.ten (newP q.keys q.spc).1 (insI_le _ _) ht;rw [show s.tens.take (insI (fun y:Ten=>decide (q.ten < y.num)) s.tens) ++ [(⟨q.ten,0,(newP q.keys q.spc).1,[]⟩:Ten)] ++ s.tens.drop (insI (fun y:Ten=>decide (q.ten < y.num)) s.tens)=insL (fun y:Ten=>decide (q.ten < y.num)) ⟨q.ten,0,(newP q.keys q.spc).1,[]⟩ s.tens from rfl] at h5;generalize insL (fun y:Ten=>decide (q.ten < y.num)) ⟨q.ten,0,(newP q.keys q.spc).1,[]⟩ s.tens=M at *;generalize newP q.keys q.spc=G at *;have h6:=olink_ac { s with sh:=R.1,tens:=M } q root st by_ q.keys q.spc 0 hl hx;unfold idxF at h4;unfold insI at h5
  cases hf:s.tens.findIdx? (fun y:Ten=>decide (q.ten < y.num)) with
  | none=>
   rw [hf] at h4 h5;dsimp only at h4 h5;have q5:decide ((-1:Int) < 0)=true:=rfl;refine AC.E func172 ntmps172 ?_;intros;iterate 2 refine CP.SL ?_
   repeat' (first|((first|refine wA1 ?_|(refine GA ?_ ?_<;>intro hg)|(refine GV ?_;intros;simp only [nz])|refine wA6 ?_)<;>try refine wN17 ?_)|refine wT8 ?_|with_reducible intro Q' hQ'|(refine GC ?_ ?_<;>intro hc)|simp only [laq])
   first|refine cp_drwX fun Q' hQ'=>?_|refine cp_drawX ?_
   repeat' (first|((first|refine wA1 ?_|(refine GA ?_ ?_<;>intro hg)|(refine GV ?_;intros;simp only [nz])|refine wA6 ?_|refine wD1 ?_)<;>try refine wN17 ?_)|refine wT8 ?_|with_reducible intro Q' hQ'|(refine GC ?_ ?_<;>intro hc)|simp only [laq])
   repeat' (first|((first|refine wA1 ?_|(refine GA ?_ ?_<;>intro hg)|(refine GV ?_;intros;simp only [nz])|refine aC4 h4 ?_|refine wA6 ?_)<;>try refine wN17 ?_)|refine wT8 ?_|with_reducible intro Q' hQ'|(refine GC ?_ ?_<;>intro hc)|simp only [laq])
   iterate 2 refine CP.SL ?_
   first|refine cp_drwX fun Q' hQ'=>?_|refine cp_drawX ?_
   iterate 12 refine DS0 ?_
   refine DW.A 0 ?_;refine NQ ?_;iterate 3 refine DS0 ?_
   repeat' (first|((first|refine wA1 ?_|(refine GA ?_ ?_<;>intro hg)|(refine GV ?_;intros;simp only [nz])|refine aC4 h6 ?_|refine wA6 ?_|refine wD4 ?_|refine dC3 h6 ?_)<;>try refine NQ ?_)|refine wT6 ?_|with_reducible intro Q' hQ'|(refine GC ?_ ?_<;>intro hc)|simp only [laq])
   exact RA1
  | some n=>
   rw [hf] at h4 h5;dsimp only at h4 h5;have q5:decide ((n:Int) < 0)=false:=by simp
   refine AC.E func172 ntmps172 ?_;intros;iterate 2 refine CP.SL ?_
   repeat' (first|((first|refine wA1 ?_|(refine GA ?_ ?_<;>intro hg)|(refine GV ?_;intros;simp only [nz])|refine wA6 ?_)<;>try refine wN17 ?_)|refine wT8 ?_|with_reducible intro Q' hQ'|(refine GC ?_ ?_<;>intro hc)|simp only [laq])
   first|refine cp_drwX fun Q' hQ'=>?_|refine cp_drawX ?_
   repeat' (first|((first|refine wA1 ?_|(refine GA ?_ ?_<;>intro hg)|(refine GV ?_;intros;simp only [nz])|refine wA6 ?_|refine wD1 ?_)<;>try refine wN17 ?_)|refine wT8 ?_|with_reducible intro Q' hQ'|(refine GC ?_ ?_<;>intro hc)|simp only [laq])
   repeat' (first|((first|refine wA1 ?_|(refine GA ?_ ?_<;>intro hg)|(refine GV ?_;intros;simp only [nz])|refine aC4 h4 ?_|refine wA6 ?_)<;>try refine wN17 ?_)|refine wT8 ?_|with_reducible intro Q' hQ'|(refine GC ?_ ?_<;>intro hc)|simp only [laq])
   iterate 2 refine CP.SL ?_
   first|refine cp_drwX fun Q' hQ'=>?_|refine cp_drawX ?_
   iterate 12 refine DS0 ?_
   refine DW.A 0 ?_;refine NQ ?_;iterate 3 refine DS0 ?_
   repeat' (first|((first|refine wA1 ?_|(refine GA ?_ ?_<;>intro hg)|(refine GV ?_;intros;simp only [nz])|refine aC4 h6 ?_|refine wA6 ?_|refine wD4 ?_|refine dC3 h6 ?_)<;>try refine NQ ?_)|refine wT6 ?_|with_reducible intro Q' hQ'|(refine GC ?_ ?_<;>intro hc)|simp only [laq])
   exact RA1
 ·rw [if_neg hR];have q1:(R.2 != 0)=true:=by simpa using hR
  have h2:=fails_ac R.2;refine AC.E func172 ntmps172 ?_;intros;iterate 2 refine CP.SL ?_
  repeat' (first|((first|refine wA1 ?_|(refine GA ?_ ?_<;>intro hg)|(refine GV ?_;intros;simp only [nz])|refine wA6 ?_|refine wD1 ?_)<;>try refine wN0 ?_)|refine wT6 ?_|with_reducible intro Q' hQ'|(refine GC ?_ ?_<;>intro hc)|simp only [laq])
  exact RA1
def oRsz (s:St) (q:Req) (st:Int):Rep×St:=
 if (rszQ s.sh ⟨q.ten,q.keys,q.spc⟩).2=0 then (match s.tens.findIdx? (fun x:Ten=>x.num == q.ten) with
  | none=>(rp0,s)
  | some n=>match s.tens[n]? with
   | none=>(rp0,s)
   | some x=>if q.keys < x.spc.keys\/q.spc < x.spc.bytes then (failR 120,s) else (rp0,lnkS { s with sh:=(rszQ s.sh ⟨q.ten,q.keys,q.spc⟩).1,tens:=s.tens.set n { x with spc:=⟨q.keys,q.spc,x.spc.prs⟩ } } q st q.keys q.spc 0))
 else (failR (rszQ s.sh ⟨q.ten,q.keys,q.spc⟩).2,s)
def oGnt (root:List UInt8) (s:St) (q:Req) (st:Int):Rep×St:=match s.tens.findIdx? (fun x:Ten=>x.num == q.ten) with
 | none=>(failR 160,s)
 | some n=>match s.tens[n]? with
  | none=>(failR 160,s)
  | some x=>
   if grS ⟨q.g.rts,q.g.exp,x.ser + 1⟩=false then (failR 2,s)
   else if q.ten≠0/\hasR q.g.rts 8=true then (failR 94,s)
   else if (mintS (keyT root q.ten) q.ten ⟨q.g.rts,q.g.exp,x.ser + 1⟩).2=0 then
    ({ rp0 with val:=tokP (mintS (keyT root q.ten) q.ten ⟨q.g.rts,q.g.exp,x.ser + 1⟩).1,n:=x.ser + 1 },lnkS { s with tens:=s.tens.set n { x with ser:=x.ser + 1 } } q st (q.g.rts.toNat:Int) q.g.exp (x.ser + 1))
   else (failR (mintS (keyT root q.ten) q.ten ⟨q.g.rts,q.g.exp,x.ser + 1⟩).2,s)
