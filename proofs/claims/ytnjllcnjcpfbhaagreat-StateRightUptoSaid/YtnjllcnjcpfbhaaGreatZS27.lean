/- Parts. -/
import Derived.Test.YtnjllcnjcpfbhaaGreatZS26
namespace Go.Proofs.YtnjllcnjcpfbhaaGreat
set_option linter.unusedVariables false
set_option linter.unusedSimpArgs false
open Go.RowKit Go.Proofs.Tryz
set_option maxRecDepth 100000
set_option maxHeartbeats 8000000
theorem wN32 {G G':Prop} (K:G') (h:G'->G:=by (intro kz;simp only [q3,q4,q5,nq,Nat.reduceBEq,Nat.reduceAdd,Nat.reduceSub];exact kz)):G:=h K
theorem wN24 {G G':Prop} (K:G') (h:G'->G:=by (intro kz;simp only [w1,nq,Nat.reduceBEq,Nat.reduceAdd,Nat.reduceSub];exact kz)):G:=h K
theorem wN25 {G G':Prop} (K:G') (h:G'->G:=by (intro kz;simp only [spl,nq,Nat.reduceBEq,Nat.reduceAdd,Nat.reduceSub];exact kz)):G:=h K
theorem wN33 {G G':Prop} (K:G') (h:G'->G:=by (intro kz;simp only [List.nil_append,←List.map_append,nq,Nat.reduceBEq,Nat.reduceAdd,Nat.reduceSub];exact kz)):G:=h K
section
variable {s:AS} {ops:Array Oper} {all:List Oper} {K:AS->Prop} {acc:List Fp} {l:List Oper} {av:AV} {op:Op} {ty:Nat} {pos:String} {aft:Array Edge} {g:Option (Nat×Bool)} {d:Nat} {T:List Nat} {F:List Nat} {b2:List Sl} {r:Bool}
theorem DW.TK0 (hk:DW prog ops all K (⟨T,none,F,true⟩ :: acc) l ⟨s.t,b2⟩) (hg:gdS ops s g=some r:=by exact rfl) (hT:opTs ops ⟨none,op,ty,pos,aft,g⟩=T:=by (simp only [ft,nm,Nat.reduceAdd,Nat.reduceBEq,List.getElem?_cons_zero,List.getElem?_cons_succ];exact rfl)) (hF:ftF 0 s op=F:=by (simp only [ft,nm,Nat.reduceAdd,Nat.reduceBEq,List.getElem?_cons_zero,List.getElem?_cons_succ];exact rfl)) (h:∀ X V,AP prog X ops (fun e s'=>e=.normal/\s'.t=msT T 0 s.t/\Mg F V 0 s.b s'.b b2) [⟨none,op,ty,pos,aft,g⟩] ⟨msT T 0 s.t,msB F V 0 s.b⟩:=by (intro X V;simp only [ft,nm,Nat.reduceAdd,Nat.reduceBEq];(refine AP.TK ?_);(try refine NX ?_);refine AP.nil ?_;(first|refine ⟨trivial,rfl,?_⟩|refine ⟨rfl,rfl,?_⟩);(repeat' (first|exact Mg.nil|apply Mg.keep rfl|apply Mg.take rfl));all_goals fail))
 (hb:(∃ V:Nat->Nat,∃ b1,Mg F V 0 s.b b1 b2):=by (refine Exists.intro (fun _=>0) ?_;apply Exists.intro;(repeat' (first|exact Mg.nil|apply Mg.keep rfl|apply Mg.take rfl));all_goals fail)) (hy:nyF F 0 s.b=true:=by exact rfl) (hy2:nyF F 0 b2=true:=by exact rfl):DW prog ops all K acc (⟨none,op,ty,pos,aft,g⟩ :: l) s:=DW.stN 0 hT hF h hb hk hy hy2
end
abbrev tTe:TypeId:=42
def tenB:ByteArray:=⟨#[116,101,110,97,110,116]⟩
def keyT (root:List UInt8) (n:Int):List UInt8:=deriveS root tenB [n]
theorem skey_ac (root:List UInt8) (hr:root.length<=100000) (n:Int):AF 17 [bs none root,I n] (bs none (keyT root n)):=by
 have h1:AF 50 [bs none root,.sc (.string ⟨#[116,101,110,97,110,116]⟩),.sl none 1 [[I n]]] (bs none (keyT root n)):=hderive_ac root tenB [n] hr (by decide) (by simp);generalize keyT root n=k at *;refine AC.E func17 ntmps17 ?_;intros;refine CP.SL ?_
 repeat' (first|((first|refine wA1 ?_|(refine GA ?_ ?_<;>intro hg)|(refine GV ?_;intros;simp only [nz])|refine wA6 ?_)<;>try refine NQ ?_)|refine wT3 ?_|with_reducible intro Q' hQ'|(refine GC ?_ ?_<;>intro hc)|simp only [laq])
 exact RA0
theorem stidx_ac_c (t:Int) (x:Ten):AC prog 71 [.ag (eTe x),.bp 0 0 0] [.c tIn' [I t]] (fun v bs'=>v=B (x.num == t)/\bs'=[.c tIn' [I t]]):=by
 refine AC.E func71 ntmps71 ?_;intros;refine CP.SL ?_
 repeat' (first|((first|refine wA1 ?_|(refine GA ?_ ?_<;>intro hg)|(refine GV ?_;intros;simp only [nz])|refine wA6 ?_)<;>try refine NQ ?_)|refine wT3 ?_|with_reducible intro Q' hQ'|(refine GC ?_ ?_<;>intro hc)|simp only [laq])
 exact RA1
theorem stidx_ac (l:List Ten) (hl:l.length<=1000000)(t:Int):AC prog 70 [.sl none 6 (l.map eTe),.fn 71 [.bp 0 0 0]] [.c tIn' [I t]] (fun v bs'=>v=I (idxF (fun x:Ten=>x.num == t) l)/\bs'=[.c tIn' [I t]]):=by
 refine AC.E func70 ntmps70 ?_;intros
 repeat' (first|((first|refine wA1 ?_|(refine GA ?_ ?_<;>intro hg)|(refine GV ?_;intros;simp only [nz])|refine wA6 ?_)<;>try refine NQ ?_)|refine wT3 ?_|with_reducible intro Q' hQ'|(refine GC ?_ ?_<;>intro hc)|simp only [laq])
 refine cp_loopS [4,5,8,9,10,11,12,13,14,15,16,17,18] (fun a:Nat=>l.length - a) (fun a=>a<=l.length/\∀ i x,i < a->l[i]? = some x->(fun x:Ten=>x.num == t) x=false) (fun a=>[(8,I a)]) (fun _=>[]) 0 ⟨Nat.zero_le _,fun i x h=>absurd h (by omega)⟩ (by exact Gh.W) ?_;rintro a ⟨ha,hinv⟩;refine ST0 ?_
 by_cases hlt:a < l.length
 ·have q1:decide ((a:Int) < (l.length:Int))=true:=by simp;omega
  have q2:IntKind.i64.wrap ((a:Int) + 1)=((a + 1:Nat):Int):=wrap_i64 (by omega) (by omega);have hr:(l.map eTe)[a]? = some (eTe l[a]):=by rw [List.getElem?_map,List.getElem?_eq_getElem hlt];rfl
  have h1:=stidx_ac_c t l[a]
  cases hp:(fun x:Ten=>x.num == t) l[a] with
  | true=>
   rw [show idxF (fun x:Ten=>x.num == t) l=(a:Int) from idxF_at hlt hp hinv]
   (try dsimp only at hp);rw [hp] at h1
   generalize l[a]=x at *
   repeat' (first|((first|refine wA1 ?_|(refine GA ?_ ?_<;>intro hg)|(refine GV ?_;intros;simp only [nz])|refine wA6 ?_)<;>try refine wN1 ?_)|refine wT3 ?_|with_reducible intro Q' hQ'|(refine GC ?_ ?_<;>intro hc)|simp only [laq])
   exact RA1
  | false=>
   have hinv2:∀ i x,i < a + 1->l[i]? = some x->(fun x:Ten=>x.num == t) x=false:=fun i x hi hx=>by
    by_cases hia:i=a
    ·subst hia;rw [List.getElem?_eq_getElem hlt] at hx;injection hx with hx;rw [←hx];exact hp
    ·exact hinv i x (by omega) hx
   (try dsimp only at hp);rw [hp] at h1
   generalize l[a]=x at *
   repeat' (first|((first|refine wA1 ?_|(refine GA ?_ ?_<;>intro hg)|(refine GV ?_;intros;simp only [nz])|refine wA6 ?_)<;>try refine wN1 ?_)|refine wT3 ?_|with_reducible intro Q' hQ'|(refine GC ?_ ?_<;>intro hc)|simp only [laq])
   exact ⟨a + 1,by omega,⟨by omega,hinv2⟩,by exact Gh.W⟩
 ·obtain rfl:a=l.length:=by omega
  have q1:decide ((l.length:Int) < (l.length:Int))=false:=by simp
  rw [show idxF (fun x:Ten=>x.num == t) l = -1 from idxF_no fun x hx=>by obtain ⟨i,hi⟩:=List.mem_iff_getElem?.1 hx;exact hinv i x (List.getElem?_eq_some_iff.1 hi).1 hi]
  repeat' (first|((first|refine wA1 ?_|(refine GA ?_ ?_<;>intro hg)|(refine GV ?_;intros;simp only [nz])|refine wA6 ?_)<;>try refine wN0 ?_)|refine wT3 ?_|with_reducible intro Q' hQ'|(refine GC ?_ ?_<;>intro hc)|simp only [laq])
  exact RA1
abbrev idxT (l:List Ten) (n:Int):Int:=idxF (fun x:Ten=>x.num == n) l
theorem stat_ac (s:St) (hl:s.tens.length<=1000000) (n:Int):AF 30 [.ag (eSt s),I n] (I (idxT s.tens n)):=by
 have h1:=stidx_ac s.tens hl n;refine AC.E func30 ntmps30 ?_;intros;refine CP.SL ?_
 repeat' (first|((first|refine wA1 ?_|(refine GA ?_ ?_<;>intro hg)|(refine GV ?_;intros;simp only [nz])|refine wA6 ?_)<;>try refine NQ ?_)|refine wT3 ?_|with_reducible intro Q' hQ'|(refine GC ?_ ?_<;>intro hc)|simp only [laq])
 exact RA0
theorem lacln_ac (a:List Las) (ha:a.length<=100000000):AF 102 [.sl none 77 (a.map eLa)] (.sl (some tLa) 77 (a.map eLa)):=by
 refine AC.E func102 ntmps102 ?_;intros
 repeat' (first|((first|refine wA2 ?_|(refine GV ?_;intro c hnil;simp only [nz]))<;>try refine NX ?_)|refine wT2 ?_|with_reducible intro Q' hQ'|(refine GC ?_ ?_<;>intro hc)|simp only [laq])
 ·obtain rfl:a=[]:=by simpa using hnil hc
  exact RA0
 ·(refine RB1 ?_;(exact ⟨by simp,rfl⟩))
theorem tecln_ac (a:List Ten) (ha:a.length<=100000000):AF 104 [.sl none 6 (a.map eTe)] (.sl (some tTe) 6 (a.map eTe)):=by
 refine AC.E func104 ntmps104 ?_;intros
 repeat' (first|((first|refine wA2 ?_|(refine GV ?_;intro c hnil;simp only [nz]))<;>try refine NX ?_)|refine wT2 ?_|with_reducible intro Q' hQ'|(refine GC ?_ ?_<;>intro hc)|simp only [laq])
 ·obtain rfl:a=[]:=by simpa using hnil hc
  exact RA0
 ·(refine RB1 ?_;(exact ⟨by simp,rfl⟩))
theorem prcln_ac (a:List Pr) (ha:a.length<=100000000):AF 72 [.sl none 2 (a.map ePr)] (.sl (some tPr) 2 (a.map ePr)):=by
 refine AC.E func72 ntmps72 ?_;intros
 repeat' (first|((first|refine wA2 ?_|(refine GV ?_;intro c hnil;simp only [nz]))<;>try refine NX ?_)|refine wT2 ?_|with_reducible intro Q' hQ'|(refine GC ?_ ?_<;>intro hc)|simp only [laq])
 ·obtain rfl:a=[]:=by simpa using hnil hc
  exact RA0
 ·(refine RB1 ?_;(exact ⟨by simp,rfl⟩))
theorem incln_ac (a:List Int) (ha:a.length<=100000000):AF 73 [.sl none 1 (a.map eI)] (.sl (some 3) 1 (a.map eI)):=by
 refine AC.E func73 ntmps73 ?_;intros
 repeat' (first|((first|refine wA2 ?_|(refine GV ?_;intro c hnil;simp only [nz]))<;>try refine NX ?_)|refine wT2 ?_|with_reducible intro Q' hQ'|(refine GC ?_ ?_<;>intro hc)|simp only [laq])
 ·obtain rfl:a=[]:=by simpa using hnil hc
  exact RA0
 ·(refine RB1 ?_;(exact ⟨by simp,rfl⟩))
theorem tcopied_ac (t:Ten) (hp:t.spc.prs.length<=1000000) (hr:t.rev.length<=1000000):AF 31 [.ag (eTe t)] (.ag (eTe t)):=by
 have h1:=(prcln_ac t.spc.prs (by omega)).ro (r2:=prsA t.spc.prs) (by simp only [AV.ro,roP]);have h2:=(incln_ac t.rev (by omega)).ro (r2:=.sl none 1 (t.rev.map eI)) (by simp only [AV.ro,roI]);refine AC.E func31 ntmps31 ?_;intros;iterate 3 refine CP.SL ?_
 repeat' (first|((first|refine wA1 ?_|(refine GA ?_ ?_<;>intro hg)|(refine GV ?_;intros;simp only [nz])|refine wA6 ?_)<;>try refine NQ ?_)|refine wT3 ?_|with_reducible intro Q' hQ'|(refine GC ?_ ?_<;>intro hc)|simp only [laq])
 exact RA0
abbrev eStO (s:St):List AV:=[I s.pos,shrA s.sh,.sl (some tTe) 6 (s.tens.map eTe),lnkA s.links,lasA s.lasts]
theorem sown_ac (s:St) (hs:s.small) (hlk:s.links.length<=1000000) (hk:∀ x∈s.lasts,x.rep.keys.length<=1000000):AF 51 [.ag (eSt s)] (.ag (eStO s)):=by
 obtain ⟨hq,ht,hl,hts⟩:=hs;have h1:=(qcln_ac s.sh (by omega)).ro (r2:=shrA s.sh) (by simp only [AV.ro,roS]);have h2:=(lkcln_ac s.links (by omega)).ro (r2:=lnkA s.links) (by simp only [AV.ro,roLk]);have h3:=lacln_ac s.lasts (by omega);have h4:=tecln_ac s.tens (by omega);obtain ⟨pos,sh,tens,links,lasts⟩:=s;dsimp only at *;refine AC.E func51 ntmps51 ?_;intros
 repeat' (first|((first|refine wA1 ?_|(refine GA ?_ ?_<;>intro hg)|(refine GV ?_;intros;simp only [nz])|refine wA6 ?_|refine wD1 ?_)<;>try refine NQ ?_)|refine wT6 ?_|with_reducible intro Q' hQ'|(refine GC ?_ ?_<;>intro hc)|simp only [laq])
 clear h1 h2 h3;refine cp_loopS [3,21,22,23,24,25,26,27,28,29,30,31,32,33,34,35,36,37,38] (fun a:Nat=>lasts.length - a) (fun a=>a<=lasts.length) (fun a=>[(21,I a)]) (fun _=>[]) 0 (Nat.zero_le _) (by exact Gh.W) ?_;intro a ha;refine ST0 ?_
 by_cases hlt:a < lasts.length
 ·have q1:decide ((a:Int) < (lasts.length:Int))=true:=by simp;omega
  have w1:IntKind.i64.wrap ((a:Int) + 1)=((a + 1:Nat):Int):=wrap_i64 (by omega) (by omega);have hr:(lasts.map eLa)[a]? = some (eLa lasts[a]):=by rw [List.getElem?_map,List.getElem?_eq_getElem hlt];rfl
  have h5:=(tcln_ac lasts[a].rep.keys (by have:=hk _ (List.getElem_mem hlt);omega)).ro (r2:=ts none lasts[a].rep.keys) (by simp only [AV.ro,roT])
  have e6:(lasts.map eLa).set a (eLa lasts[a])=lasts.map eLa:=by
   apply List.ext_getElem?;intro j
   rw [List.getElem?_set];split
   ·next h=>subst h;rw [if_pos (by simpa using hlt),hr]
   ·rfl
  generalize lasts[a]=x at *
  repeat' (first|((first|refine wA1 ?_|(refine GA ?_ ?_<;>intro hg)|(refine GV ?_;intros;simp only [nz])|refine wA6 ?_)<;>(try simp only [q1,w1,nq,Nat.reduceBEq,Nat.reduceAdd,Nat.reduceSub]))|refine wT8 ?_|with_reducible intro Q' hQ'|(refine GC ?_ ?_<;>intro hc)|simp only [laq])
  first|refine cp_drwX fun Q' hQ'=>?_|refine cp_drawX ?_
  iterate 15 refine DS0 ?_
  repeat' (first|((first|refine wA1 ?_|(refine GA ?_ ?_<;>intro hg)|(refine GV ?_;intros;simp only [nz])|refine wA6 ?_)<;>(try simp only [w1,e6,nq,Nat.reduceBEq,Nat.reduceAdd,Nat.reduceSub]))|refine wT8 ?_|with_reducible intro Q' hQ'|(refine GC ?_ ?_<;>intro hc)|simp only [laq])
  refine ⟨a + 1,by omega,by omega,?_⟩;exact Gh.W
 ·obtain rfl:a=lasts.length:=by omega
  have q1:decide ((lasts.length:Int) < (lasts.length:Int))=false:=by simp
  refine CP.gh (gh_fzS (b:=2) rfl) ?_;simp only [roL,nq,Nat.reduceBEq,Nat.reduceAdd,Nat.reduceSub]
  repeat' (first|((first|refine wA1 ?_|(refine GA ?_ ?_<;>intro hg)|(refine GV ?_;intros;simp only [nz])|refine wA6 ?_)<;>try refine wN0 ?_)|refine wT8 ?_|with_reducible intro Q' hQ'|(refine GC ?_ ?_<;>intro hc)|simp only [laq])
  refine CP.SL ?_;refine cp_loopS [4,5,46,47,48,49,50,51,52,53,54,55,56,57] (fun a:Nat=>tens.length - a) (fun a=>a<=tens.length) (fun a=>[(46,I a)]) (fun a=>[(3,⟨a,.x⟩)]) 0 (Nat.zero_le _) (by exact Gh.W) ?_;intro a ha;refine ST0 ?_;clear q1
  by_cases hlt:a < tens.length
  ·have q1:decide ((a:Int) < (tens.length:Int))=true:=by simp;omega
   have w1:IntKind.i64.wrap ((a:Int) + 1)=((a + 1:Nat):Int):=wrap_i64 (by omega) (by omega);have hr:(tens.map eTe)[a]? = some (eTe tens[a]):=by rw [List.getElem?_map,List.getElem?_eq_getElem hlt];rfl
   have h5:=tcopied_ac tens[a] (hts _ (List.getElem_mem hlt)).p (hts _ (List.getElem_mem hlt)).r
   have e6:(tens.map eTe).set a (eTe tens[a])=tens.map eTe:=by
    apply List.ext_getElem?;intro j
    rw [List.getElem?_set];split
    ·next h=>subst h;rw [if_pos (by simpa using hlt),hr]
    ·rfl
   generalize tens[a]=x at *
   repeat' (first|((first|refine wA1 ?_|(refine GA ?_ ?_<;>intro hg)|(refine GV ?_;intros;simp only [nz])|refine wA6 ?_)<;>(try simp only [q1,w1,nq,Nat.reduceBEq,Nat.reduceAdd,Nat.reduceSub]))|refine wT8 ?_|with_reducible intro Q' hQ'|(refine GC ?_ ?_<;>intro hc)|simp only [laq])
   first|refine cp_drwX fun Q' hQ'=>?_|refine cp_drawX ?_
   iterate 6 refine DS0 ?_
   refine DW.TK0 ?_;refine wN25 ?_
   repeat' (first|((first|refine wA1 ?_|(refine GA ?_ ?_<;>intro hg)|(refine GV ?_;intros;simp only [nz])|refine wA6 ?_)<;>(try simp only [w1,e6,nq,Nat.reduceBEq,Nat.reduceAdd,Nat.reduceSub]))|refine wT8 ?_|with_reducible intro Q' hQ'|(refine GC ?_ ?_<;>intro hc)|simp only [laq])
   refine ⟨a + 1,by omega,by omega,?_⟩;exact Gh.W
  ·obtain rfl:a=tens.length:=by omega
   have q1:decide ((tens.length:Int) < (tens.length:Int))=false:=by simp
   repeat' (first|((first|refine wA1 ?_|(refine GA ?_ ?_<;>intro hg)|(refine GV ?_;intros;simp only [nz])|refine wA6 ?_)<;>try refine wN0 ?_)|refine wT8 ?_|with_reducible intro Q' hQ'|(refine GC ?_ ?_<;>intro hc)|simp only [laq])
   exact RA0
theorem dgrant8_ac (g:Gr):AF 188 [.ag (eGr g)] (B (grS g)):=by
 have hr:=g.rts.toNat_lt;refine AC.E func188 ntmps188 ?_;intros;refine CP.SL ?_
 repeat' (first|((first|refine wA1 ?_|(refine GA ?_ ?_<;>intro hg)|(refine GV ?_;intros;simp only [nz])|refine wA6 ?_)<;>try refine NQ ?_)|refine wT3 ?_|with_reducible intro Q' hQ'|(refine GC ?_ ?_<;>intro hc)|simp only [laq])
 all_goals (refine RB1 ?_;((refine ⟨congrArg B ?_,rfl⟩;(repeat (rename AC _ _ _ _ _=>hzz;clear hzz));rw [Bool.eq_iff_iff];simp [grS] at *;omega)))
theorem dline_ac (l:List Gr) (hl:l.length<=1000000):AF 159 [grA l] (B (lineS l)):=by
 refine AC.E func159 ntmps159 ?_;intros
 repeat' (first|((first|refine wA1 ?_|(refine GA ?_ ?_<;>intro hg)|(refine GV ?_;intros;simp only [nz])|refine wA6 ?_)<;>try refine NQ ?_)|refine wT3 ?_|with_reducible intro Q' hQ'|(refine GC ?_ ?_<;>intro hc)|simp only [laq])
 refine cp_loopS [2,3,4,5,6,7,8,9,10,11,12,13,14,15,16,17,18,19] (fun a:Nat=>l.length - a) (fun a=>a<=l.length/\a<=4/\l.all grS=(l.drop a).all grS) (fun a=>[(3,I a)]) (fun _=>[]) 0 ⟨Nat.zero_le _,Nat.zero_le _,rfl⟩ (by exact Gh.W) ?_;rintro a ⟨ha,ha4,hinv⟩;refine ST0 ?_
 by_cases hlt:a < l.length
 ·have q3:decide ((a:Int) < (l.length:Int))=true:=by simp;omega
  have q4:IntKind.i64.wrap ((a:Int) + 1)=((a + 1:Nat):Int):=wrap_i64 (by omega) (by omega);have hr:(l.map eGr)[a]? = some (eGr l[a]):=by rw [List.getElem?_map,List.getElem?_eq_getElem hlt];rfl
  have h2:=dgrant8_ac l[a];rw [List.drop_eq_getElem_cons hlt,List.all_cons] at hinv;generalize l[a]=p at *
  by_cases h4:a=4
  ·have q5:decide ((3:Int) < (a:Int))=true:=decide_eq_true (by omega);rw [show lineS l=false by unfold lineS;rw [show decide (l.length<=4)=false from decide_eq_false (by omega),Bool.and_false];rfl]
   repeat' (first|((first|refine wA1 ?_|(refine GA ?_ ?_<;>intro hg)|(refine GV ?_;intros;simp only [nz])|refine wA6 ?_)<;>try refine wN32 ?_)|refine wT4 ?_|with_reducible intro Q' hQ'|(refine GC ?_ ?_<;>intro hc)|simp only [laq])
   exact RA0
  ·have q5:decide ((3:Int) < (a:Int))=false:=decide_eq_false (by omega)
   cases hp:grS p with
   | false=>
    rw [hp] at h2 hinv;rw [show lineS l=false by unfold lineS;rw [hinv];simp]
    repeat' (first|((first|refine wA1 ?_|(refine GA ?_ ?_<;>intro hg)|(refine GV ?_;intros;simp only [nz])|refine wA6 ?_)<;>try refine wN32 ?_)|refine wT4 ?_|with_reducible intro Q' hQ'|(refine GC ?_ ?_<;>intro hc)|simp only [laq])
    exact RA0
   | true=>
    rw [hp,Bool.true_and] at hinv;rw [hp] at h2
    repeat' (first|((first|refine wA1 ?_|(refine GA ?_ ?_<;>intro hg)|(refine GV ?_;intros;simp only [nz])|refine wA6 ?_)<;>try refine wN32 ?_)|refine wT4 ?_|with_reducible intro Q' hQ'|(refine GC ?_ ?_<;>intro hc)|simp only [laq])
    exact ⟨a + 1,by omega,⟨by omega,by omega,hinv⟩,by exact Gh.W⟩
 ·obtain rfl:a=l.length:=by omega
  have q3:decide ((l.length:Int) < (l.length:Int))=false:=by simp
  have hM:lineS l=decide ((0:Int) < (l.length:Int)):=by
   unfold lineS;rw [hinv,List.drop_length,decide_eq_true ha4,Bool.eq_iff_iff];simp;omega
  rw [hM]
  repeat' (first|((first|refine wA1 ?_|(refine GA ?_ ?_<;>intro hg)|(refine GV ?_;intros;simp only [nz])|refine wA6 ?_)<;>try refine wN20 ?_)|refine wT4 ?_|with_reducible intro Q' hQ'|(refine GC ?_ ?_<;>intro hc)|simp only [laq])
  exact RA0
theorem dmayT_ac (t:Tok) (hl:t.line.length<=1000000):AF 91 [.ag (eTok t)] (B (mayT t)):=by
 have h1:=dline_ac t.line hl;unfold mayT
 by_cases q1:0<=t.ten
 ·by_cases q2:t.ten<=8
  ·simp only [decide_eq_true q1,decide_eq_true q2,Bool.true_and];have q1':=decide_eq_true q1;have q2':=decide_eq_true q2;generalize lineS t.line=b at *;refine AC.E func91 ntmps91 ?_;intros;refine CP.SL ?_
   repeat' (first|((first|refine wA1 ?_|(refine GA ?_ ?_<;>intro hg)|(refine GV ?_;intros;simp only [nz])|refine wA6 ?_)<;>try refine wN13 ?_)|refine wT3 ?_|with_reducible intro Q' hQ'|(refine GC ?_ ?_<;>intro hc)|simp only [laq])
   exact RA0
  ·simp only [decide_eq_true q1,decide_eq_false q2,Bool.true_and,Bool.false_and];have q1':=decide_eq_true q1;have q2':=decide_eq_false q2;clear h1;refine AC.E func91 ntmps91 ?_;intros;refine CP.SL ?_
   repeat' (first|((first|refine wA1 ?_|(refine GA ?_ ?_<;>intro hg)|(refine GV ?_;intros;simp only [nz])|refine wA6 ?_)<;>try refine wN13 ?_)|refine wT3 ?_|with_reducible intro Q' hQ'|(refine GC ?_ ?_<;>intro hc)|simp only [laq])
   exact RA0
 ·simp only [decide_eq_false q1,Bool.false_and];have q1':=decide_eq_false q1;clear h1;refine AC.E func91 ntmps91 ?_;intros;refine CP.SL ?_
  repeat' (first|((first|refine wA1 ?_|(refine GA ?_ ?_<;>intro hg)|(refine GV ?_;intros;simp only [nz])|refine wA6 ?_)<;>try refine wN22 ?_)|refine wT3 ?_|with_reducible intro Q' hQ'|(refine GC ?_ ?_<;>intro hc)|simp only [laq])
  exact RA0
theorem dnum_ac (n:Int):AF 88 [I n] (bs (some tU) (intS n)):=by
 have hx:=wrap_u64_lt n;have e0:intS n=putS (IntKind.u64.wrap n).toNat 8:=rfl;have hxx:IntKind.u64.wrap n=(((IntKind.u64.wrap n).toNat:Nat):Int):=by simp [IntKind.wrap,IntKind.bits,IntKind.signed];omega
 rw [e0];generalize (IntKind.u64.wrap n).toNat=x at *;refine AC.E func88 ntmps88 ?_;intros
 repeat' (first|((first|refine wA1 ?_|(refine GA ?_ ?_<;>intro hg)|(refine GV ?_;intros;simp only [nz])|((with_reducible apply AP.k_any);refine ap_makeS (n:=8) rfl rfl rfl rfl rfl rfl rfl rfl rfl rfl rfl (by omega) ?_)|refine wA6 ?_)<;>(try simp only [hxx,nq,Nat.reduceBEq,Nat.reduceAdd,Nat.reduceSub]))|refine wT3 ?_|with_reducible intro Q' hQ'|(refine GC ?_ ?_<;>intro hc)|simp only [laq])
 refine cp_loopS [4,5,9,10,11,12,13,14,15,16,17,18,19,20] (fun a:Nat=>8 - a) (fun a=>a<=8) (fun a=>[(5,I ((7:Int) - (a:Int))),(4,.sc (.int .u64 ((x / 256 ^ a:Nat):Int)))]) (fun a=>[(0,⟨1,.r tU 1 ((List.replicate (8 - a) 0 ++ putS x a).map eB)⟩)]) 0 (Nat.zero_le _) (by (simp only [Nat.pow_zero,Nat.div_one];exact Gh.W)) ?_;intro a ha;refine ST0 ?_
 by_cases hlt:a < 8
 ·have ei:(7:Int) - (a:Int)=((7 - a:Nat):Int):=by omega
  have q1:decide ((0:Int)<=((7 - a:Nat):Int))=true:=decide_eq_true (by omega);have w1:IntKind.i64.wrap (((7 - a:Nat):Int) - 1)=(7:Int) - ((a + 1:Nat):Int):=by rw [wrap_i64 (by omega) (by omega)];omega
  have hp:=putS_length x a;have hle:x / 256 ^ a<=x:=Nat.div_le_self _ _
  have hq:IntKind.u64.wrap (((x / 256 ^ a:Nat):Int).tdiv 256)=((x / 256 ^ (a + 1):Nat):Int):=by
   rw [Nat.pow_succ,←Nat.div_div_eq_div_mul,show (256:Int)=((256:Nat):Int) from rfl,←Int.ofNat_tdiv];generalize x / 256 ^ a=y at hle;simp [IntKind.wrap,IntKind.bits,IntKind.signed];omega
  have hm1:IntKind.u8.wrap (((x / 256 ^ a:Nat):Int).tmod 256)=((UInt8.ofNat (x / 256 ^ a % 256)).toNat:Int):=by
   rw [show (256:Int)=((256:Nat):Int) from rfl,←Int.ofNat_tmod,UInt8.toNat_ofNat'];simp [IntKind.wrap,IntKind.bits,IntKind.signed]
  have hset:((List.replicate (8 - a) (0:UInt8) ++ putS x a).map eB).set (7 - a) [U (UInt8.ofNat (x / 256 ^ a % 256))]=(List.replicate (8 - (a + 1)) 0 ++ putS x (a + 1)).map eB:=by
   rw [show ([U (UInt8.ofNat (x / 256 ^ a % 256))]:List AV)=eB (UInt8.ofNat (x / 256 ^ a % 256)) from rfl,←List.map_set]
   congr 1
   rw [show 8 - a=(7 - a) + 1 by omega,List.replicate_succ',List.append_assoc,List.set_append_right _ _ (by simp),List.length_replicate,Nat.sub_self];rw [show 8 - (a + 1)=7 - a by omega,putS];rfl
  have hlen:((List.replicate (8 - a) (0:UInt8) ++ putS x a).map eB).length=8:=by simp;omega
  have hri:7 - a < ((List.replicate (8 - a) (0:UInt8) ++ putS x a).map eB).length:=by omega
  have hr:((List.replicate (8 - a) (0:UInt8) ++ putS x a).map eB)[7 - a]? = some (eB 0):=by
   rw [List.getElem?_map,List.getElem?_append_left (by simp;omega),List.getElem?_replicate,if_pos (by omega)];rfl
  rw [ei]
  repeat' (first|((first|refine wA1 ?_|(refine GA ?_ ?_<;>intro hg)|(refine GV ?_;intros;simp only [nz])|refine wA6 ?_)<;>(try simp only [q1,w1,hq,hm1,hset,nq,Nat.reduceBEq,Nat.reduceAdd,Nat.reduceSub]))|refine wT8 ?_|with_reducible intro Q' hQ'|(refine GC ?_ ?_<;>intro hc)|simp only [laq])
  exact ⟨a + 1,by omega,by omega,by exact Gh.W⟩
 ·obtain rfl:a=8:=by omega
  have q1:decide ((0:Int)<=(7:Int) - ((8:Nat):Int))=false:=by decide
  repeat' (first|((first|refine wA1 ?_|(refine GA ?_ ?_<;>intro hg)|(refine GV ?_;intros;simp only [nz])|refine wA6 ?_)<;>try refine wN0 ?_)|refine wT3 ?_|with_reducible intro Q' hQ'|(refine GC ?_ ?_<;>intro hc)|simp only [laq])
  exact RA0
theorem dgr_ac (g:Gr):AF 89 [.ag (eGr g)] (bs (some tU) (grN g)):=by
 have hw:=u8_i64 g.rts
 have e:grN g=intS (g.rts.toNat:Int) ++ intS g.exp ++ intS g.ser:=by
  show intS (g.rts.toNat:Int) ++ (intS g.exp ++ (intS g.ser ++ []))=_
  simp only [List.append_assoc,List.append_nil]
 rw [e];have h1:=(dnum_ac (g.rts.toNat:Int)).ro (r2:=bs none (intS (g.rts.toNat:Int))) (by simp [AV.ro,ro_B]);have h2:=(dnum_ac g.exp).ro (r2:=bs none (intS g.exp)) (by simp [AV.ro,ro_B]);have h3:=(dnum_ac g.ser).ro (r2:=bs none (intS g.ser)) (by simp [AV.ro,ro_B]);have l1:(intS (g.rts.toNat:Int)).length=8:=putS_length _ 8;have l2:(intS g.exp).length=8:=putS_length _ 8;have l3:(intS g.ser).length=8:=putS_length _ 8;generalize intS (g.rts.toNat:Int)=a at *;generalize intS g.exp=b at *;generalize intS g.ser=c at *;have k1:(a.map eB).length + (b.map eB).length<=1000000000:=by simp;omega
 have k2:((a ++ b).map eB).length + (c.map eB).length<=1000000000:=by simp;omega
 have k3:([]:List (List AV)).length + (a.map eB).length<=1000000000:=by simp;omega
 refine AC.E func89 ntmps89 ?_;intros;iterate 3 refine CP.SL ?_
 repeat' (first|((first|refine wA1 ?_|(refine GA ?_ ?_<;>intro hg)|(refine GV ?_;intros;simp only [nz])|refine aC1 h1 ?_|refine aC1 h2 ?_|refine aC1 h3 ?_|refine wA6 ?_)<;>(try simp only [hw,List.nil_append,←List.map_append,nq,Nat.reduceBEq,Nat.reduceAdd,Nat.reduceSub]))|refine wT3 ?_|with_reducible intro Q' hQ'|(refine GC ?_ ?_<;>intro hc)|simp only [laq])
 exact RA0
theorem tokT_len (key:List UInt8) (ten:Int):∀ l:List Gr,(tokT key ten l).length=32
 | []=>rfl
 | g :: l=>by rw [tokT];exact tokF_len l _ rfl
theorem tokT_take {key:List UInt8} {ten:Int} {l:List Gr} {a:Nat} (h:a < l.length):tokT key ten (l.take (a + 1))=if a=0 then hmacS key (nuL [ten] ++ grN l[a]) else hmacS (tokT key ten (l.take a)) (grN l[a]):=by
 cases l with
 | nil=>simp at h
 | cons g m=>
  cases a with
  | zero=>rfl
  | succ a=>
   rw [if_neg (by omega)];rw [List.take_succ_cons,List.take_succ_cons,tokT,tokT];rw [tokF_take (by simpa using h)];rfl
def vT (a:Nat):Nat:=if a=0 then 0 else 2 * a + 1
theorem dtag9_ac (key:List UInt8) (hk:key.length<=1000000) (t:Tok) (hl:t.line.length<=1000):AF 40 [bs none key,.ag (eTok t)] (tg (tokT key t.ten t.line)):=by
 obtain ⟨ten,l,tag⟩:=t;dsimp only at *;have e9:nuL [ten]=intS ten:=by show intS ten ++ []=_;rw [List.append_nil]
 refine AC.E func40 ntmps40 ?_;intro X hρ hmks
 repeat' (first|((first|refine wA1 ?_|(refine GA ?_ ?_<;>intro hg)|(refine GV ?_;intros;simp only [nz])|refine wA6 ?_)<;>try refine NQ ?_)|refine wT8 ?_|with_reducible intro Q' hQ'|(refine GC ?_ ?_<;>intro hc)|simp only [laq])
 refine CP.SL ?_;refine CP.SL ?_;refine cp_loopS [6,7,8,9,10,11,12,13,14,15,16,17,18,19,20,21,22,23,24,25,26,27,28,29,30,31,32,33,34,35,36,37,38] (fun a:Nat=>l.length - a) (fun a=>a<=l.length) (fun a=>[(6,I a)]) (fun a=>[(2,⟨1,.c 58 (tagC (tokT key ten (l.take a)))⟩),(3,⟨vT a,.x⟩),(4,⟨0,.x⟩)]) 0 (Nat.zero_le _) (by exact Gh.W) ?_;intro a ha;refine ST0 ?_
 by_cases hlt:a < l.length
 ·have q1:decide ((a:Int) < (l.length:Int))=true:=by simp;omega
  have w1:IntKind.i64.wrap ((a:Int) + 1)=((a + 1:Nat):Int):=wrap_i64 (by omega) (by omega);have hr:(l.map eGr)[a]? = some (eGr l[a]):=by rw [List.getElem?_map,List.getElem?_eq_getElem hlt];rfl
  have h2:=(dgr_ac l[a]).ro (r2:=bs none (grN l[a])) (by simp only [AV.ro,ro_B]);have e3:=tokT_take (key:=key) (ten:=ten) hlt;have g2:=grN_len l[a];have htl:=tokT_len key ten (l.take a)
  by_cases h0:a=0
  ·subst h0;rw [if_pos rfl] at e3;rw [e9] at e3;have h1:=(dnum_ac ten).ro (r2:=bs none (intS ten)) (by simp only [AV.ro,ro_B]);have g1:(intS ten).length=8:=putS_length _ 8;have h3:=dhmac_ac key (intS ten ++ grN l[0]) hk (by rw [List.length_append];omega);rw [←e3] at h3;clear e3 e9 htl;generalize tokT key ten (l.take 0)=O at *;generalize hN:tokT key ten (l.take (0 + 1))=N at *;generalize grN l[0]=G at *;generalize intS ten=I1 at *;have k1:([]:List (List AV)).length + (I1.map eB).length<=1000000000:=by simp;omega
   have k2:(I1.map eB).length + (G.map eB).length<=1000000000:=by simp;omega
   have q2:(((0:Nat):Int) == 0)=true:=rfl
   repeat' (first|((first|refine wA1 ?_|(refine GA ?_ ?_<;>intro hg)|(refine GV ?_;intros;simp only [nz])|refine wA6 ?_)<;>try refine wN1 ?_)|refine wT8 ?_|with_reducible intro Q' hQ'|(refine GC ?_ ?_<;>intro hc)|simp only [laq])
   first|refine cp_drwX fun Q' hQ'=>?_|refine cp_drawX ?_
   iterate 5 refine DS0 ?_
   refine DW.W0 ?_;refine wN33 ?_;iterate 5 refine DS0 ?_
   refine DW.W0 ?_;refine wN33 ?_;refine DW.RA ?_ (h:=by (intro X V;simp only [ft,nm,Nat.reduceAdd,Nat.reduceBEq];(try (refine AP.Y ?_;dsimp only));refine AP.CL (h3) (hnr:=nrG _) ?_;(try refine NX ?_);refine AP.nil ?_;first|exact ⟨trivial,rfl⟩|exact ⟨rfl,rfl⟩));refine NQ ?_;iterate 1 refine DS0 ?_
   repeat' (first|((first|refine wA1 ?_|(refine GA ?_ ?_<;>intro hg)|(refine GV ?_;intros;simp only [nz])|refine wA6 ?_)<;>try refine wN24 ?_)|refine wT8 ?_|with_reducible intro Q' hQ'|(refine GC ?_ ?_<;>intro hc)|simp only [laq])
   refine ⟨0 + 1,by omega,by omega,?_⟩;rw [hN];exact Gh.W
  ·rw [if_neg h0] at e3;have h3:=dhmac_ac (tokT key ten (l.take a)) (grN l[a]) (by omega) (by omega);rw [←e3] at h3;have htm:=tagC_map htl;have k1:([]:List (List AV)).length + 32<=1000000000:=by simp
   clear e3 e9;generalize tokT key ten (l.take a)=O at *;generalize hN:tokT key ten (l.take (a + 1))=N at *;generalize grN l[a]=G at *;generalize l[a]=x at *;have q2:((a:Int) == 0)=false:=by simp;omega
   repeat' (first|((first|refine wA1 ?_|(refine GA ?_ ?_<;>intro hg)|(refine GV ?_;intros;simp only [nz])|refine wA6 ?_)<;>try refine wN1 ?_)|refine wT8 ?_|with_reducible intro Q' hQ'|(refine GC ?_ ?_<;>intro hc)|simp only [laq])
   first|refine cp_drwX fun Q' hQ'=>?_|refine cp_drawX ?_
   iterate 2 refine DS0 ?_
   refine DW.W0 ?_ (h:=by (intro X V;simp only [ft,nm,Nat.reduceAdd,Nat.reduceBEq];(try (refine AP.Y ?_;dsimp only));(refine AP.AW ?_);(try refine NX ?_);refine AP.nil ?_;(first|refine ⟨trivial,rfl,?_⟩|refine ⟨rfl,rfl,?_⟩);(repeat' (first|exact Mg.nil|apply Mg.keep rfl|apply Mg.take rfl));all_goals fail));simp only [htm,List.nil_append,←List.map_append,nq,Nat.reduceBEq,Nat.reduceAdd,Nat.reduceSub];iterate 6 refine DS0 ?_
   refine DW.RA ?_ (h:=by (intro X V;simp only [ft,nm,Nat.reduceAdd,Nat.reduceBEq];(try (refine AP.Y ?_;dsimp only));refine AP.CL (h3) (hnr:=nrG _) ?_;(try refine NX ?_);refine AP.nil ?_;first|exact ⟨trivial,rfl⟩|exact ⟨rfl,rfl⟩));refine NQ ?_;iterate 1 refine DS0 ?_
   repeat' (first|((first|refine wA1 ?_|(refine GA ?_ ?_<;>intro hg)|(refine GV ?_;intros;simp only [nz])|refine wA6 ?_)<;>try refine wN24 ?_)|refine wT8 ?_|with_reducible intro Q' hQ'|(refine GC ?_ ?_<;>intro hc)|simp only [laq])
   refine ⟨a + 1,by omega,by omega,?_⟩;rw [hN,show vT (a + 1)=vT a + 2 by unfold vT;rw [if_neg (by omega),if_neg h0];omega];exact Gh.W
 ·obtain rfl:a=l.length:=by omega
  have q1:decide ((l.length:Int) < (l.length:Int))=false:=by simp
  rw [List.take_length]
  repeat' (first|((first|refine wA1 ?_|(refine GA ?_ ?_<;>intro hg)|(refine GV ?_;intros;simp only [nz])|refine wA6 ?_|refine wD1 ?_)<;>try refine wN0 ?_)|refine wT6 ?_|with_reducible intro Q' hQ'|(refine GC ?_ ?_<;>intro hc)|simp only [laq])
  exact RA0
