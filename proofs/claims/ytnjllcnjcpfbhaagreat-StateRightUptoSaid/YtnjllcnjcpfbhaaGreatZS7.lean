/- Parts. -/
import Derived.Test.YtnjllcnjcpfbhaaGreatZS5
namespace Go.Proofs.YtnjllcnjcpfbhaaGreat
set_option linter.unusedVariables false
set_option linter.unusedSimpArgs false
open Go.RowKit Go.Proofs.Tryz
set_option maxRecDepth 100000
set_option maxHeartbeats 8000000
theorem wN4 {G G':Prop} (K:G') (h:G'->G:=by (intro kz;simp only [q2,q3,nq,Nat.reduceBEq,Nat.reduceAdd,Nat.reduceSub];exact kz)):G:=h K
theorem wN10 {G G':Prop} (K:G') (h:G'->G:=by (intro kz;simp only [q2,q3,q4,nq,Nat.reduceBEq,Nat.reduceAdd,Nat.reduceSub];exact kz)):G:=h K
theorem wN6 {G G':Prop} (K:G') (h:G'->G:=by (intro kz;simp only [q2,q3,q4,q5,hq2,nq,Nat.reduceBEq,Nat.reduceAdd,Nat.reduceSub];exact kz)):G:=h K
theorem wN9 {G G':Prop} (K:G') (h:G'->G:=by (intro kz;simp only [q2,nq,Nat.reduceBEq,Nat.reduceAdd,Nat.reduceSub];exact kz)):G:=h K
structure Pr where
 key:List UInt8
 val:List UInt8
structure Spc where
 keys:Int
 bytes:Int
 prs:List Pr
abbrev ePr (p:Pr):List AV:=[S p.key,S p.val]
abbrev prsA (l:List Pr):AV:=.sl none 2 (l.map ePr)
abbrev eSp (s:Spc):List AV:=[I s.keys,I s.bytes,prsA s.prs]
def limS (k b:Int):Bool:=decide (0<=k) && decide (k<=64) && decide (0<=b) && decide (b<=4096)
def prS (p:Pr):Bool:=decide (1<=p.key.length) && decide (p.key.length<=24) && decide (p.val.length<=64)
def cntP:List Pr->Nat
 | []=>0
 | p :: l=>p.key.length + p.val.length + cntP l
theorem cntP_app (l m:List Pr):cntP (l ++ m)=cntP l + cntP m:=by
 induction l with
 | nil=>simp [cntP]
 | cons p l ih=>simp only [List.cons_append,cntP,ih];omega
theorem cntP_le {l:List Pr} (h:∀ p∈l,p.key.length<=1000000/\p.val.length<=1000000):cntP l<=2000000 * l.length:=by
 induction l with
 | nil=>simp [cntP]
 | cons p l ih=>
  have:=h p (by simp);have:=ih fun q hq=>h q (by simp [hq])
  simp only [cntP,List.length_cons];omega
def ascP (l:List Pr):Bool:=asc Pr.key Op.bytesLess prS none l
def maySp (s:Spc):Bool:=limS s.keys s.bytes && decide ((s.prs.length:Int)<=s.keys) && ascP s.prs && decide ((cntP s.prs:Int)<=s.bytes)
theorem limits_ac (k b:Int):AF 128 [I k,I b] (B (limS k b)):=by
 refine AC.E func128 ntmps128 ?_;intros
 repeat' (first|((first|refine wA1 ?_|(refine GA ?_ ?_<;>intro hg)|(refine GV ?_;intros;simp only [nz])|refine wA6 ?_)<;>try refine NQ ?_)|refine wT3 ?_|with_reducible intro Q' hQ'|(refine GC ?_ ?_<;>intro hc)|simp only [laq])
 all_goals (refine RB1 ?_;((refine ⟨congrArg B ?_,rfl⟩;(repeat (rename AC _ _ _ _ _=>hzz;clear hzz));simp at *;simp [limS, *];try omega)))
theorem pair_ac (p:Pr):AF 129 [.ag (ePr p)] (B (prS p)):=by
 refine AC.E func129 ntmps129 ?_;intros;refine CP.SL ?_
 repeat' (first|((first|refine wA1 ?_|(refine GA ?_ ?_<;>intro hg)|(refine GV ?_;intros;simp only [nz])|refine wA6 ?_)<;>(try simp only [bsz,nq,Nat.reduceBEq,Nat.reduceAdd,Nat.reduceSub]))|refine wT3 ?_|with_reducible intro Q' hQ'|(refine GC ?_ ?_<;>intro hc)|simp only [laq])
 all_goals (refine RB1 ?_;((refine ⟨congrArg B ?_,rfl⟩;(repeat (rename AC _ _ _ _ _=>hzz;clear hzz));rw [Bool.eq_iff_iff];simp [prS] at *;omega)))
theorem count_ac (l:List Pr) (hl:l.length<=1000000) (hs:∀ p∈l,p.key.length<=1000000/\p.val.length<=1000000):AF 130 [prsA l] (I (cntP l)):=by
 refine AC.E func130 ntmps130 ?_;intros;refine CP.SL ?_
 repeat' (first|((first|refine wA1 ?_|(refine GA ?_ ?_<;>intro hg)|(refine GV ?_;intros;simp only [nz])|refine wA6 ?_)<;>try refine NQ ?_)|refine wT3 ?_|with_reducible intro Q' hQ'|(refine GC ?_ ?_<;>intro hc)|simp only [laq])
 refine cp_loopS [3,5,8,9,10,11,12,13,14,15,16,17,18,19,20,21] (fun a:Nat=>l.length - a) (fun a=>a<=l.length) (fun a=>[(8,I a),(3,I (cntP (l.take a)))]) (fun a=>[(0,⟨a,.x⟩)]) 0 (Nat.zero_le _) (by exact Gh.W) ?_;intro a ha;refine ST0 ?_
 by_cases hlt:a < l.length
 ·have q1:decide ((a:Int) < (l.length:Int))=true:=by simp;omega
  have q2:IntKind.i64.wrap ((a:Int) + 1)=((a + 1:Nat):Int):=wrap_i64 (by omega) (by omega);have hr:(l.map ePr)[a]? = some (ePr l[a]):=by rw [List.getElem?_map,List.getElem?_eq_getElem hlt];rfl
  have hp:=hs _ (List.getElem_mem hlt);have hc:=cntP_le (l:=l.take a) fun p hp=>hs p (List.mem_of_mem_take hp)
  rw [List.length_take] at hc;have e:cntP (l.take (a + 1))=cntP (l.take a) + (l[a].key.length + l[a].val.length):=by rw [List.take_succ_eq_append_getElem hlt,cntP_app];rfl
  have q3:IntKind.i64.wrap ((cntP (l.take a):Int) + IntKind.i64.wrap ((l[a].key.length:Int) + (l[a].val.length:Int)))=((cntP (l.take (a + 1)):Nat):Int):=by
   rw [wrap_i64 (x:=(l[a].key.length:Int) + _) (by omega) (by omega),e,wrap_i64 (by omega) (by omega)];omega
  generalize l[a]=p at *
  repeat' (first|((first|refine wA1 ?_|(refine GA ?_ ?_<;>intro hg)|(refine GV ?_;intros;simp only [nz])|refine wA6 ?_)<;>(try simp only [q1,q2,bsz,q3,nq,Nat.reduceBEq,Nat.reduceAdd,Nat.reduceSub]))|refine wT3 ?_|with_reducible intro Q' hQ'|(refine GC ?_ ?_<;>intro hc)|simp only [laq])
  exact ⟨a + 1,by omega,by omega,by exact Gh.W⟩
 ·obtain rfl:a=l.length:=by omega
  have q1:decide ((l.length:Int) < (l.length:Int))=false:=by simp
  rw [List.take_length]
  repeat' (first|((first|refine wA1 ?_|(refine GA ?_ ?_<;>intro hg)|(refine GV ?_;intros;simp only [nz])|refine wA6 ?_)<;>try refine wN0 ?_)|refine wT3 ?_|with_reducible intro Q' hQ'|(refine GC ?_ ?_<;>intro hc)|simp only [laq])
  exact RA0
theorem may_of {a b c d:Bool} (h:a=false\/b=false\/c=false\/d=false):(a && b && c && d)=false:=by
 cases a<;>cases b<;>cases c<;>cases d<;>first|rfl|simp at h
theorem wT6 {G G':Prop} (K:G') (h:G'->G:=by (intro kz;first|exact CP.TL kz|((with_reducible apply CP.k_drw);exact cp_drwX kz)|((with_reducible apply CP.k_reg);exact cp_regG kz))):G:=h K
theorem wT7 {G G':Prop} (K:G') (h:G'->G:=by (intro kz;first|exact CP.T2 kz|((with_reducible apply CP.k_drw);exact cp_drwX kz)|((with_reducible apply CP.k_reg);exact cp_regG kz))):G:=h K
theorem wA11 {G G':Prop} (K:G') (h:G'->G:=by (intro kz;(with_reducible apply AP.k_any);exact AP.SO kz)):G:=h K
theorem wD4 {G G':Prop} (K:G') (h:G'->G:=by (intro kz;(with_reducible apply DW.k_any);first|exact DW.ST kz|exact DW.R kz|exact DW.R' kz|exact DW.W kz|exact DW.W' kz)):G:=h K
theorem smay_ac (s:Spc) (hl:s.prs.length<=1000000) (hs:∀ p∈s.prs,p.key.length<=1000000/\p.val.length<=1000000):AF 68 [.ag (eSp s)] (B (maySp s)):=by
 have h1:=limits_ac s.keys s.bytes;have h3:=count_ac s.prs hl hs
 cases hA:limS s.keys s.bytes with
 | false=>
  rw [hA] at h1;rw [show maySp s=false from may_of (.inl hA)];refine AC.E func68 ntmps68 ?_;intro X hρ hmks;iterate 2 refine CP.SL ?_
  repeat' (first|((first|refine wA1 ?_|(refine GA ?_ ?_<;>intro hg)|(refine GV ?_;intros;simp only [nz])|refine wA6 ?_|refine wD1 ?_)<;>try refine NQ ?_)|refine wT6 ?_|with_reducible intro Q' hQ'|(refine GC ?_ ?_<;>intro hc)|simp only [laq])
  exact RA0
 | true=>
 rw [hA] at h1
 by_cases hB:s.keys < (s.prs.length:Int)
 ·have q1:=decide_eq_true hB;rw [show maySp s=false from may_of (.inr (.inl (decide_eq_false (by omega))))];refine AC.E func68 ntmps68 ?_;intro X hρ hmks;iterate 2 refine CP.SL ?_
  repeat' (first|((first|refine wA1 ?_|(refine GA ?_ ?_<;>intro hg)|(refine GV ?_;intros;simp only [nz])|refine wA6 ?_|refine wD1 ?_)<;>try refine wN0 ?_)|refine wT6 ?_|with_reducible intro Q' hQ'|(refine GC ?_ ?_<;>intro hc)|simp only [laq])
  exact RA0
 have q1:=decide_eq_false hB
 have hM:maySp s=(asc Pr.key Op.bytesLess prS none s.prs && decide ((cntP s.prs:Int)<=s.bytes)):=by
  unfold maySp ascP;rw [hA,decide_eq_true (by omega:(s.prs.length:Int)<=s.keys)];rfl
 refine AC.E func68 ntmps68 ?_;intro X hρ hmks;iterate 2 refine CP.SL ?_
 repeat' (first|((first|refine wA1 ?_|(refine GA ?_ ?_<;>intro hg)|(refine GV ?_;intros;simp only [nz])|refine wA6 ?_|refine wD1 ?_)<;>try refine wN0 ?_)|refine wT6 ?_|with_reducible intro Q' hQ'|(refine GC ?_ ?_<;>intro hc)|simp only [laq])
 refine cp_loopS [2,3,4,22,23,24,25,26,27,28,29,30,31,32,33,34,35,36,37,38,39,40,41,42,43,44,45,46] (fun a:Nat=>(s.prs).length - a) (fun a=>a<=(s.prs).length/\asc Pr.key Op.bytesLess prS none (s.prs)=asc Pr.key Op.bytesLess prS (prv Pr.key (s.prs) a) ((s.prs).drop a)) (fun a=>[(22,I a)]) (fun a=>[(1,⟨a,.x⟩)]) 0 ⟨Nat.zero_le _,rfl⟩ (by exact Gh.W) ?_;rintro a ⟨ha,hinv⟩;refine ST0 ?_
 by_cases hlt:a < (s.prs).length
 ·have q2:decide ((a:Int) < ((s.prs).length:Int))=true:=by simp;omega
  have q3:IntKind.i64.wrap ((a:Int) + 1)=((a + 1:Nat):Int):=wrap_i64 (by omega) (by omega);have hr:((s.prs).map ePr)[a]? = some (ePr (s.prs)[a]):=by rw [List.getElem?_map,List.getElem?_eq_getElem hlt];rfl
  have h2:=pair_ac (s.prs)[a]
  cases hp:prS (s.prs)[a] with
  | false=>
   have hb:=asc_bad (key:=Pr.key) (lt:=Op.bytesLess) (ok:=prS) hlt (by rw [hp];rfl);rw [hM,hinv,hb];rw [hp] at h2;generalize (s.prs)[a]=p at *
   repeat' (first|((first|refine wA1 ?_|(refine GA ?_ ?_<;>intro hg)|(refine GV ?_;intros;simp only [nz])|refine wA6 ?_|refine wD1 ?_)<;>try refine wN4 ?_)|refine wT7 ?_|with_reducible intro Q' hQ'|(refine GC ?_ ?_<;>intro hc)|simp only [laq])
   exact RA0
  | true=>
  rw [hp] at h2;rcases Nat.eq_zero_or_pos a with rfl|hpos
  ·have hg:=asc_go (key:=Pr.key) (lt:=Op.bytesLess) (ok:=prS) hlt (by rw [hp];rfl);have q4:decide ((0:Int) < ((0:Nat):Int))=false:=rfl;generalize (s.prs)[0]=p at *
   repeat' (first|((first|refine wA1 ?_|(refine GA ?_ ?_<;>intro hg)|(refine GV ?_;intros;simp only [nz])|refine wA6 ?_|refine wD1 ?_)<;>try refine wN10 ?_)|refine wT7 ?_|with_reducible intro Q' hQ'|(refine GC ?_ ?_<;>intro hc)|simp only [laq])
   exact ⟨1,by omega,⟨by omega,hinv.trans hg⟩,by exact Gh.W⟩
  ·have q4:decide ((0:Int) < (a:Int))=true:=by simp;omega
   have q5:IntKind.i64.wrap ((a:Int) - 1)=((a - 1:Nat):Int):=by rw [wrap_i64 (by omega) (by omega)];omega
   have hr2:((s.prs).map ePr)[a - 1]? = some (ePr ((s.prs)[a - 1]'(by omega))):=by rw [List.getElem?_map,List.getElem?_eq_getElem (by omega)];rfl
   have hpv:prv Pr.key (s.prs) a=some (Pr.key ((s.prs)[a - 1]'(by omega))):=by
    obtain ⟨b,rfl⟩:∃ b,a=b + 1:=⟨a - 1,by omega⟩
    show ((s.prs)[b]?).map Pr.key=_
    rw [List.getElem?_eq_getElem (by omega)];rfl
   cases hq:Op.bytesLess (Pr.key ((s.prs)[a - 1]'(by omega))) (Pr.key (s.prs)[a]) with
   | false=>
    have hb:=asc_bad (key:=Pr.key) (lt:=Op.bytesLess) (ok:=prS) hlt (by rw [hp,hpv];exact hq);rw [hM,hinv,hb];generalize (s.prs)[a]=p at *;generalize (s.prs)[a - 1]'(by omega)=p0 at *;have hq2:=hq
    repeat' (first|((first|refine wA1 ?_|(refine GA ?_ ?_<;>intro hg)|(refine GV ?_;intros;simp only [nz])|refine wA11 ?_|refine wA6 ?_|refine wD4 ?_|((with_reducible apply DW.k_any);refine DW.known rfl ?_;(with_reducible first|apply DW.sx 2);(iterate 2 (focus (simp only [ft,nm,Nat.reduceAdd,Nat.reduceBEq,List.getElem?_cons_zero,List.getElem?_cons_succ];exact rfl)));(focus (intro X V;simp only [ft,nm,Nat.reduceAdd,Nat.reduceBEq];(try (refine AP.Y ?_;dsimp only));(first|refine AP.SO ?_|fail);(try refine NX ?_);refine AP.nil ?_;(first|refine ⟨trivial,rfl,?_⟩|refine ⟨rfl,rfl,?_⟩);(repeat' (first|exact Mg.nil|apply Mg.keep rfl|apply Mg.take rfl));done));(focus (refine Exists.intro (fun _=>0) ?_;apply Exists.intro;(repeat' (first|exact Mg.nil|apply Mg.keep rfl|apply Mg.take rfl));done));(iterate 2 (focus (exact rfl)))))<;>try refine wN6 ?_)|refine wT7 ?_|with_reducible intro Q' hQ'|(refine GC ?_ ?_<;>intro hc)|simp only [laq])
    exact RA0
   | true=>
    have hg:=asc_go (key:=Pr.key) (lt:=Op.bytesLess) (ok:=prS) hlt (by rw [hp,hpv];exact hq);generalize (s.prs)[a]=p at *;generalize (s.prs)[a - 1]'(by omega)=p0 at *;have hq2:=hq
    repeat' (first|((first|refine wA1 ?_|(refine GA ?_ ?_<;>intro hg)|(refine GV ?_;intros;simp only [nz])|refine wA11 ?_|refine wA6 ?_|refine wD4 ?_|((with_reducible apply DW.k_any);refine DW.known rfl ?_;(with_reducible first|apply DW.sx 2);(iterate 2 (focus (simp only [ft,nm,Nat.reduceAdd,Nat.reduceBEq,List.getElem?_cons_zero,List.getElem?_cons_succ];exact rfl)));(focus (intro X V;simp only [ft,nm,Nat.reduceAdd,Nat.reduceBEq];(try (refine AP.Y ?_;dsimp only));(first|refine AP.SO ?_|fail);(try refine NX ?_);refine AP.nil ?_;(first|refine ⟨trivial,rfl,?_⟩|refine ⟨rfl,rfl,?_⟩);(repeat' (first|exact Mg.nil|apply Mg.keep rfl|apply Mg.take rfl));done));(focus (refine Exists.intro (fun _=>0) ?_;apply Exists.intro;(repeat' (first|exact Mg.nil|apply Mg.keep rfl|apply Mg.take rfl));done));(iterate 2 (focus (exact rfl)))))<;>try refine wN6 ?_)|refine wT7 ?_|with_reducible intro Q' hQ'|(refine GC ?_ ?_<;>intro hc)|simp only [laq])
    exact ⟨a + 1,by omega,⟨by omega,hinv.trans hg⟩,by exact Gh.W⟩
 obtain rfl:a=(s.prs).length:=by omega
 have q2:decide (((s.prs).length:Int) < ((s.prs).length:Int))=false:=by simp
 rw [hM,hinv,asc_end]
 repeat' (first|((first|refine wA1 ?_|(refine GA ?_ ?_<;>intro hg)|(refine GV ?_;intros;simp only [nz])|refine wA6 ?_|refine wD1 ?_)<;>try refine wN9 ?_)|refine wT7 ?_|with_reducible intro Q' hQ'|(refine GC ?_ ?_<;>intro hc)|simp only [laq])
 exact RA0
