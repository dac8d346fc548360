/- Parts. -/
import Derived.Test.YtnjllcnjcpfbhaaGreatZS25
namespace Go.Proofs.YtnjllcnjcpfbhaaGreat
set_option linter.unusedVariables false
set_option linter.unusedSimpArgs false
open Go.RowKit Go.Proofs.Tryz
set_option maxRecDepth 100000
set_option maxHeartbeats 8000000
theorem wN13 {G G':Prop} (K:G') (h:G'->G:=by (intro kz;simp only [q1',q2',nq,Nat.reduceBEq,Nat.reduceAdd,Nat.reduceSub];exact kz)):G:=h K
theorem wN22 {G G':Prop} (K:G') (h:G'->G:=by (intro kz;simp only [q1',nq,Nat.reduceBEq,Nat.reduceAdd,Nat.reduceSub];exact kz)):G:=h K
theorem wN23 {G G':Prop} (K:G') (h:G'->G:=by (intro kz;simp only [←List.map_append,nq,Nat.reduceBEq,Nat.reduceAdd,Nat.reduceSub];exact kz)):G:=h K
def hashL (x:Lnk):List UInt8:=shaS (nuL [x.n,x.st,(x.op.toNat:Int),x.ten,x.a,x.b,x.c] ++ x.ahead)
theorem u8_i64 (a:UInt8):IntKind.i64.wrap (a.toNat:Int)=(a.toNat:Int):=wrap_i64 (by omega) (by have:=a.toNat_lt;omega)
theorem wA21 {G G':Prop} (K:G') (h:G'->G:=by (intro kz;(with_reducible apply AP.k_any);exact AP.AW kz)):G:=h K
theorem ahash_ac (x:Lnk) (hx:x.ahead.length=32):AF 238 [.ag (eLk x)] (tg (hashL x)):=by
 have h1:=anums_ac [x.n,x.st,(x.op.toNat:Int),x.ten,x.a,x.b,x.c] (by simp);have hb:(nuL [x.n,x.st,(x.op.toNat:Int),x.ten,x.a,x.b,x.c]).length=56:=by rw [nuL_length];rfl
 unfold hashL;generalize nuL [x.n,x.st,(x.op.toNat:Int),x.ten,x.a,x.b,x.c]=nb at *;have h2:=sha_ac (nb ++ x.ahead) (by rw [List.length_append];omega);have hw:=u8_i64 x.op;have htm:=tagC_map hx;simp only [tagC,List.map_cons,List.map_nil] at htm;have hl:(nb.map eB).length + 32<=1000000000:=by rw [List.length_map];omega
 have hl':nb.length + 32<=1000000000:=by omega
 generalize shaS (nb ++ x.ahead)=t at *;refine AC.E func238 ntmps238 ?_;intros
 repeat' (first|((first|refine wA1 ?_|(refine GA ?_ ?_<;>intro hg)|(refine GV ?_;intros;simp only [nz])|refine wA21 ?_|refine wA6 ?_)<;>(try simp only [hw,htm,←List.map_append,nq,Nat.reduceBEq,Nat.reduceAdd,Nat.reduceSub]))|refine wT3 ?_|with_reducible intro Q' hQ'|(refine GC ?_ ?_<;>intro hc)|simp only [laq])
 exact RA0
def headL (l:List Lnk):List UInt8:=match l.getLast? with
 | none=>z32
 | some x=>x.self
theorem headL_len {l:List Lnk} (h:∀ x∈l,x.self.length=32):(headL l).length=32:=by
 unfold headL
 cases hl:l.getLast? with
 | none=>rfl
 | some x=>exact h x (List.mem_of_getLast? hl)
theorem ahead_ac (l:List Lnk) (hl:l.length<=1000000):AF 237 [lnkA l] (tg (headL l)):=by
 unfold headL
 cases hg:l.getLast? with
 | none=>
  obtain rfl:l=[]:=List.getLast?_eq_none_iff.1 hg;have q1:((((([]:List Lnk).map eLk).length:Nat):Int) == 0)=true:=rfl;refine AC.E func237 ntmps237 ?_;intros
  repeat' (first|((first|refine wA1 ?_|(refine GA ?_ ?_<;>intro hg)|(refine GV ?_;intros;simp only [nz])|refine wA6 ?_)<;>try refine wN0 ?_)|refine wT3 ?_|with_reducible intro Q' hQ'|(refine GC ?_ ?_<;>intro hc)|simp only [laq])
  exact RA0
 | some x=>
  have hpos:0 < l.length:=by cases l with|nil=>cases hg|cons a t=>simp
  have q1:((l.length:Int) == 0)=false:=by rw [beq_eq_false_iff_ne];omega
  have q2:IntKind.i64.wrap ((l.length:Int) - 1)=((l.length - 1:Nat):Int):=by rw [wrap_i64 (by omega) (by omega)];omega
  have hr:(l.map eLk)[l.length - 1]? = some (eLk x):=by rw [List.getElem?_map,←List.getLast?_eq_getElem?,hg];rfl
  dsimp only;refine AC.E func237 ntmps237 ?_;intros
  repeat' (first|((first|refine wA1 ?_|(refine GA ?_ ?_<;>intro hg)|(refine GV ?_;intros;simp only [nz])|refine wA6 ?_)<;>try refine wN1 ?_)|refine wT3 ?_|with_reducible intro Q' hQ'|(refine GC ?_ ?_<;>intro hc)|simp only [laq])
  exact RA0
def atL (l:List Lnk) (n:Int):Lnk×Int:=if n < 1\/(l.length:Int) < n then (lk0,130) else (l.getD (n.toNat - 1) lk0,0)
theorem aat_ac (l:List Lnk) (hl:l.length<=1000000) (n:Int):AF 207 [lnkA l,I n] (.tu [.ag (eLk (atL l n).1),I (atL l n).2]):=by
 by_cases h1:n < 1
 ·rw [show atL l n=(lk0,130) from if_pos (.inl h1)];have q1:=decide_eq_true h1;refine AC.E func207 ntmps207 ?_;intros
  repeat' (first|((first|refine wA1 ?_|(refine GA ?_ ?_<;>intro hg)|(refine GV ?_;intros;simp only [nz])|refine wA6 ?_)<;>try refine wN0 ?_)|refine wT3 ?_|with_reducible intro Q' hQ'|(refine GC ?_ ?_<;>intro hc)|simp only [laq])
  exact RA0
 have q1:=decide_eq_false h1
 by_cases h2:(l.length:Int) < n
 ·rw [show atL l n=(lk0,130) from if_pos (.inr h2)];have q2:=decide_eq_true h2;refine AC.E func207 ntmps207 ?_;intros
  repeat' (first|((first|refine wA1 ?_|(refine GA ?_ ?_<;>intro hg)|(refine GV ?_;intros;simp only [nz])|refine wA6 ?_)<;>try refine wN1 ?_)|refine wT3 ?_|with_reducible intro Q' hQ'|(refine GC ?_ ?_<;>intro hc)|simp only [laq])
  exact RA0
 have q2:=decide_eq_false h2;obtain ⟨k,rfl⟩:∃ k:Nat,n=(k:Int) + 1:=⟨(n - 1).toNat,by omega⟩;have hk:k < l.length:=by omega
 have q3:IntKind.i64.wrap ((k:Int) + 1 - 1)=(k:Int):=by rw [wrap_i64 (by omega) (by omega)];omega
 have hr:(l.map eLk)[k]? = some (eLk l[k]):=by rw [List.getElem?_map,List.getElem?_eq_getElem hk];rfl
 have e:atL l ((k:Int) + 1)=(l[k],0):=by
  unfold atL;rw [if_neg (by omega),show ((k:Int) + 1).toNat - 1=k by omega,List.getD_eq_getElem?_getD,List.getElem?_eq_getElem hk];rfl
 rw [e];generalize l[k]=x at *;refine AC.E func207 ntmps207 ?_;intros
 repeat' (first|((first|refine wA1 ?_|(refine GA ?_ ?_<;>intro hg)|(refine GV ?_;intros;simp only [nz])|refine wA6 ?_)<;>try refine wN18 ?_)|refine wT3 ?_|with_reducible intro Q' hQ'|(refine GC ?_ ?_<;>intro hc)|simp only [laq])
 exact RA0
theorem lkcln_ac (a:List Lnk) (ha:a.length<=100000000):AF 101 [.sl none 71 (a.map eLk)] (.sl (some 72) 71 (a.map eLk)):=by
 refine AC.E func101 ntmps101 ?_;intros
 repeat' (first|((first|refine wA2 ?_|(refine GV ?_;intro c hnil;simp only [nz]))<;>try refine NX ?_)|refine wT2 ?_|with_reducible intro Q' hQ'|(refine GC ?_ ?_<;>intro hc)|simp only [laq])
 ·obtain rfl:a=[]:=by simpa using hnil hc
  exact RA0
 ·(refine RB1 ?_;(exact ⟨by simp,rfl⟩))
theorem lkclip_ac (l:List Lnk) (hl:l.length<=100000000):AF 239 [lnkA l] (.fs 71 (l.map eLk)):=by
 have e9:(l.map eLk).take l.length=l.map eLk:=List.take_of_length_le (by simp);have hl':(l.map eLk).length<=100000000:=by rw [List.length_map];exact hl
 refine AC.E func239 ntmps239 ?_;intros
 repeat' (first|((first|refine wA1 ?_|(refine GA ?_ ?_<;>intro hg)|(refine GV ?_;intros;simp only [nz])|refine wA6 ?_)<;>try refine wN12 ?_)|refine wT3 ?_|with_reducible intro Q' hQ'|(refine GC ?_ ?_<;>intro hc)|simp only [laq])
 exact RA0
def addK (l:List Lnk) (st:Int) (op:UInt8) (t a b c:Int):Lnk:=⟨(l.length:Int) + 1,st,op,t,a,b,c,headL l,z32⟩
def addL (l:List Lnk) (st:Int) (op:UInt8) (t a b c:Int):List Lnk:=l ++ [⟨(l.length:Int) + 1,st,op,t,a,b,c,headL l,hashL (addK l st op t a b c)⟩]
theorem roLk (l:List Lnk):roE (l.map eLk)=l.map eLk:=by rw [roE_map];exact List.map_congr_left fun x _=>by simp only [roC,AV.ro]
theorem aaddO_ac (l:List Lnk) (hl:l.length<=1000000) (hs:∀ x∈l,x.self.length=32) (st:Int) (op:UInt8) (t a b c:Int):AF 222 [lnkA l,I st,U op,I t,I a,I b,I c] (.sl (some 72) 71 ((addL l st op t a b c).map eLk)):=by
 have h1:=ahead_ac l hl;have hh:=headL_len hs;have h2:=ahash_ac (addK l st op t a b c) hh;have h3:=(lkcln_ac l (by omega)).ro (r2:=lnkA l) (by simp only [AV.ro,roLk]);have h4:=lkclip_ac l (by omega);unfold addL;generalize hashL (addK l st op t a b c)=hv at *;unfold addK at h2;generalize headL l=hd at *;have q1:IntKind.i64.wrap ((l.length:Int) + 1)=(l.length:Int) + 1:=wrap_i64 (by omega) (by omega);have hl1:(l.map eLk).length + 1<=1000000000:=by simp;omega
 have e5:(l ++ [(⟨(l.length:Int) + 1,st,op,t,a,b,c,hd,hv⟩:Lnk)]).map eLk=l.map eLk ++ [eLk ⟨(l.length:Int) + 1,st,op,t,a,b,c,hd,hv⟩]:=List.map_append;rw [e5];clear e5;refine AC.E func222 ntmps222 ?_;intros;iterate 2 refine CP.SL ?_
 repeat' (first|((first|refine wA1 ?_|(refine GA ?_ ?_<;>intro hg)|(refine GV ?_;intros;simp only [nz])|refine wA6 ?_)<;>try refine wN0 ?_)|refine wT8 ?_|with_reducible intro Q' hQ'|(refine GC ?_ ?_<;>intro hc)|simp only [laq])
 clear h1 h2
 first|refine cp_drwX fun Q' hQ'=>?_|refine cp_drawX ?_
 iterate 4 refine DS0 ?_
 refine DW.WB ?_;refine NQ ?_;iterate 2 refine DS0 ?_
 repeat' (first|((first|refine wA1 ?_|(refine GA ?_ ?_<;>intro hg)|(refine GV ?_;intros;simp only [nz])|refine wA6 ?_|refine wD1 ?_)<;>try refine NQ ?_)|refine wT6 ?_|with_reducible intro Q' hQ'|(refine GC ?_ ?_<;>intro hc)|simp only [laq])
 exact RA0
theorem aadd_ac (l:List Lnk) (hl:l.length<=1000000) (hs:∀ x∈l,x.self.length=32) (st:Int) (op:UInt8) (t a b c:Int):AF 222 [lnkA l,I st,U op,I t,I a,I b,I c] (lnkA (addL l st op t a b c)):=(aaddO_ac l hl hs st op t a b c).ro (by simp only [AV.ro,roLk])
section
variable {s:AS} {ops:Array Oper} {all:List Oper} {K:AS->Prop} {acc:List Fp} {l:List Oper} {av:AV} {op:Op} {ty:Nat} {pos:String} {aft:Array Edge} {g:Option (Nat×Bool)} {d:Nat} {T:List Nat} {F:List Nat} {b2:List Sl} {r:Bool}
theorem DW.W0 (hk:DW prog ops all K (⟨T,some d,F,true⟩ :: acc) l ⟨s.t.set d av,b2⟩) (hg:gdS ops s g=some r:=by exact rfl) (hT:opTs ops ⟨some d,op,ty,pos,aft,g⟩=T:=by (simp only [ft,nm,Nat.reduceAdd,Nat.reduceBEq,List.getElem?_cons_zero,List.getElem?_cons_succ];exact rfl)) (hF:ftF 0 s op=F:=by (simp only [ft,nm,Nat.reduceAdd,Nat.reduceBEq,List.getElem?_cons_zero,List.getElem?_cons_succ];exact rfl)) (h:∀ X V,AP prog X ops (fun e s'=>e=.normal/\s'.t=(msT T 0 s.t).set d av/\Mg F V 0 s.b s'.b b2) [⟨some d,op,ty,pos,aft,g⟩] ⟨msT T 0 s.t,msB F V 0 s.b⟩:=by (intro X V;simp only [ft,nm,Nat.reduceAdd,Nat.reduceBEq];(first|refine AP.S ?_|((try (refine AP.Y ?_;dsimp only));first|refine AP.E ?_|refine AP.T ?_));(try refine NX ?_);refine AP.nil ?_;(first|refine ⟨trivial,rfl,?_⟩|refine ⟨rfl,rfl,?_⟩);(repeat' (first|exact Mg.nil|apply Mg.keep rfl|apply Mg.take rfl));all_goals fail))
 (hb:(∃ V:Nat->Nat,∃ b1,Mg F V 0 s.b b1 b2):=by (refine Exists.intro (fun _=>0) ?_;apply Exists.intro;(repeat' (first|exact Mg.nil|apply Mg.keep rfl|apply Mg.take rfl));all_goals fail)) (hy:nyF F 0 s.b=true:=by exact rfl) (hy2:nyF F 0 b2=true:=by exact rfl):DW prog ops all K acc (⟨some d,op,ty,pos,aft,g⟩ :: l) s:=DW.st 0 hT hF h hb hk hy hy2
end
theorem nrG (t:List UInt8):NR (tg t):=by
 apply NR.ag;intro a ha;rw [←mixT_32] at ha;obtain ⟨j,_,rfl⟩:=List.mem_map.1 ha;exact NR.sc
structure Tok where
 ten:Int
 line:List Gr
 tag:List UInt8
abbrev eTok (t:Tok):List AV:=[I t.ten,grA t.line,U (t.tag.getD 0 0),U (t.tag.getD 1 0),U (t.tag.getD 2 0),U (t.tag.getD 3 0),U (t.tag.getD 4 0),U (t.tag.getD 5 0),U (t.tag.getD 6 0),U (t.tag.getD 7 0),U (t.tag.getD 8 0),U (t.tag.getD 9 0),U (t.tag.getD 10 0),U (t.tag.getD 11 0),U (t.tag.getD 12 0),U (t.tag.getD 13 0),U (t.tag.getD 14 0),U (t.tag.getD 15 0),U (t.tag.getD 16 0),U (t.tag.getD 17 0),U (t.tag.getD 18 0),U (t.tag.getD 19 0),U (t.tag.getD 20 0),U (t.tag.getD 21 0),U (t.tag.getD 22 0),U (t.tag.getD 23 0),U (t.tag.getD 24 0),U (t.tag.getD 25 0),U (t.tag.getD 26 0),U (t.tag.getD 27 0),U (t.tag.getD 28 0),U (t.tag.getD 29 0),U (t.tag.getD 30 0),U (t.tag.getD 31 0)]
def mayT (t:Tok):Bool:=decide (0<=t.ten) && decide (t.ten<=8) && lineS t.line
def grN (g:Gr):List UInt8:=nuL [(g.rts.toNat:Int),g.exp,g.ser]
theorem grN_len (g:Gr):(grN g).length=24:=by unfold grN;rw [nuL_length];rfl
theorem tgrant_ac (g:Gr):AF 98 [.ag (eGr g)] (bs none (grN g)):=by
 have h1:=(tnums_ac [(g.rts.toNat:Int),g.exp,g.ser] (by simp)).ro (r2:=bs none (grN g)) (by simp [AV.ro,ro_B,grN]);generalize grN g=n at *;have hw:=u8_i64 g.rts;refine AC.E func98 ntmps98 ?_;intros;refine CP.SL ?_
 repeat' (first|((first|refine wA1 ?_|(refine GA ?_ ?_<;>intro hg)|(refine GV ?_;intros;simp only [nz])|refine wA6 ?_)<;>(try simp only [hw,nq,Nat.reduceBEq,Nat.reduceAdd,Nat.reduceSub]))|refine wT3 ?_|with_reducible intro Q' hQ'|(refine GC ?_ ?_<;>intro hc)|simp only [laq])
 exact RA0
theorem tmay_ac (t:Tok) (hl:t.line.length<=1000000):AF 46 [.ag (eTok t)] (B (mayT t)):=by
 have h1:=line_ac t.line hl;unfold mayT
 by_cases q1:0<=t.ten
 ·by_cases q2:t.ten<=8
  ·simp only [decide_eq_true q1,decide_eq_true q2,Bool.true_and];have q1':=decide_eq_true q1;have q2':=decide_eq_true q2;generalize lineS t.line=b at *;refine AC.E func46 ntmps46 ?_;intros;refine CP.SL ?_
   repeat' (first|((first|refine wA1 ?_|(refine GA ?_ ?_<;>intro hg)|(refine GV ?_;intros;simp only [nz])|refine wA6 ?_)<;>try refine wN13 ?_)|refine wT3 ?_|with_reducible intro Q' hQ'|(refine GC ?_ ?_<;>intro hc)|simp only [laq])
   exact RA0
  ·simp only [decide_eq_true q1,decide_eq_false q2,Bool.true_and,Bool.false_and];have q1':=decide_eq_true q1;have q2':=decide_eq_false q2;clear h1;refine AC.E func46 ntmps46 ?_;intros;refine CP.SL ?_
   repeat' (first|((first|refine wA1 ?_|(refine GA ?_ ?_<;>intro hg)|(refine GV ?_;intros;simp only [nz])|refine wA6 ?_)<;>try refine wN13 ?_)|refine wT3 ?_|with_reducible intro Q' hQ'|(refine GC ?_ ?_<;>intro hc)|simp only [laq])
   exact RA0
 ·simp only [decide_eq_false q1,Bool.false_and];have q1':=decide_eq_false q1;clear h1;refine AC.E func46 ntmps46 ?_;intros;refine CP.SL ?_
  repeat' (first|((first|refine wA1 ?_|(refine GA ?_ ?_<;>intro hg)|(refine GV ?_;intros;simp only [nz])|refine wA6 ?_)<;>try refine wN22 ?_)|refine wT3 ?_|with_reducible intro Q' hQ'|(refine GC ?_ ?_<;>intro hc)|simp only [laq])
  exact RA0
def tokF (o:List UInt8) (l:List Gr):List UInt8:=l.foldl (fun o g=>hmacS o (grN g)) o
def tokT (key:List UInt8) (ten:Int):List Gr->List UInt8
 | []=>z32
 | g :: l=>tokF (hmacS key (nuL [ten] ++ grN g)) l
theorem tokF_len:∀ (l:List Gr) (o:List UInt8),o.length=32->(tokF o l).length=32
 | [],_,h=>h
 | g :: l,o,_=>tokF_len l (hmacS o (grN g)) rfl
theorem tokF_take {o:List UInt8} {l:List Gr} {k:Nat} (h:k < l.length):tokF o (l.take (k + 1))=hmacS (tokF o (l.take k)) (grN l[k]):=by
 unfold tokF;rw [List.take_succ_eq_append_getElem h,List.foldl_append];rfl
theorem ttag_ac (key:List UInt8) (hk:key.length<=1000000) (t:Tok) (g:Gr) (l:List Gr) (ht:t.line=g :: l) (hl:t.line.length<=1000000):AF 49 [bs none key,.ag (eTok t)] (tg (tokT key t.ten t.line)):=by
 obtain ⟨ten,line,tag⟩:=t;subst ht;have h1:=tnums_ac [ten] (by simp);have h2:=tgrant_ac g;have hn:(nuL [ten]).length=8:=by rw [nuL_length];rfl
 have hg:(grN g).length=24:=grN_len g;have h3:=hmac_ac key (nuL [ten] ++ grN g) hk (by rw [List.length_append];omega);rw [tokT];have ho:(hmacS key (nuL [ten] ++ grN g)).length=32:=rfl;generalize nuL [ten]=n1 at *;generalize hn2:grN g=n2 at *;generalize hmacS key (n1 ++ n2)=o at *;have hl1:(n1.map eB).length + (n2.map eB).length<=1000000000:=by simp;omega
 have hl2:n1.length + n2.length<=1000000000:=by omega
 have e1:(eGr g :: l.map eGr).take 1=[eGr g]:=rfl;have hll:(eGr g :: l.map eGr).length=l.length + 1:=by simp
 rw [List.length_cons] at hl;refine AC.E func49 ntmps49 ?_;intro X hρ hmks
 repeat' (first|((first|refine wA1 ?_|(refine GA ?_ ?_<;>intro hg)|(refine GV ?_;intros;simp only [nz])|refine wA6 ?_)<;>try refine wN23 ?_)|refine wT8 ?_|with_reducible intro Q' hQ'|(refine GC ?_ ?_<;>intro hc)|simp only [laq])
 iterate 3 refine CP.SL ?_
 first|refine cp_drwX fun Q' hQ'=>?_|refine cp_drawX ?_
 iterate 10 (((with_reducible apply DW.k_any);refine DW.ST ?_)<;>try refine wN23 ?_)
 refine DW.W0 ?_;refine wN23 ?_;refine DW.RA ?_ (h:=by (intro X V;simp only [ft,nm,Nat.reduceAdd,Nat.reduceBEq];(try (refine AP.Y ?_;dsimp only));refine AP.CL (h3) (hnr:=nrG _) ?_;(try refine NX ?_);refine AP.nil ?_;first|exact ⟨trivial,rfl⟩|exact ⟨rfl,rfl⟩));refine NQ ?_;iterate 2 (((with_reducible apply DW.k_any);refine DW.ST ?_)<;>try refine wN23 ?_)
 clear h1 h2 h3;have e9:List.take (l.length + 1 - Int.toNat 1) (List.drop (Int.toNat 1) (eGr g :: List.map eGr l))=l.map eGr:=List.take_of_length_le (by simp)
 repeat' (first|((first|refine wA1 ?_|(refine GA ?_ ?_<;>intro hg)|(refine GV ?_;intros;simp only [nz])|refine wA6 ?_)<;>try refine wN12 ?_)|refine wT8 ?_|with_reducible intro Q' hQ'|(refine GC ?_ ?_<;>intro hc)|simp only [laq])
 refine CP.SL ?_;refine cp_loopS [7,24,25,26,27,28,29,30,31,32] (fun a:Nat=>l.length - a) (fun a=>a<=l.length) (fun a=>[(24,I a)]) (fun a=>[(4,⟨1,.c 58 (tagC (tokF o (l.take a)))⟩),(5,⟨a,.x⟩)]) 0 (Nat.zero_le _) (by exact Gh.W) ?_;intro a ha;refine ST0 ?_
 by_cases hlt:a < l.length
 ·have q2:decide ((a:Int) < (l.length:Int))=true:=by simp;omega
  have q3:IntKind.i64.wrap ((a:Int) + 1)=((a + 1:Nat):Int):=wrap_i64 (by omega) (by omega);have hr1:(l.map eGr)[a]? = some (eGr l[a]):=by rw [List.getElem?_map,List.getElem?_eq_getElem hlt];rfl
  have h5:=tgrant_ac l[a];have hol:=tokF_len (l.take a) o ho;have hgl:=grN_len l[a];have h6:=hmac_ac (tokF o (l.take a)) (grN l[a]) (by omega) (by omega);rw [←tokF_take hlt] at h6;have htm:=tagC_map hol;generalize tokF o (l.take a)=o1 at *;generalize hO2:tokF o (l.take (a + 1))=o2 at *;generalize grN l[a]=n at *;generalize l[a]=x at *
  repeat' (first|((first|refine wA1 ?_|(refine GA ?_ ?_<;>intro hg)|(refine GV ?_;intros;simp only [nz])|refine wA6 ?_)<;>try refine wN4 ?_)|refine wT8 ?_|with_reducible intro Q' hQ'|(refine GC ?_ ?_<;>intro hc)|simp only [laq])
  first|refine cp_drwX fun Q' hQ'=>?_|refine cp_drawX ?_
  iterate 3 refine DS0 ?_
  refine DW.RA ?_ (h:=by (intro X V;simp only [ft,nm,Nat.reduceAdd,Nat.reduceBEq];(try (refine AP.Y ?_;dsimp only));refine AP.CL (h6) (hnr:=nrG _) ?_;(try refine NX ?_);refine AP.nil ?_;first|exact ⟨trivial,rfl⟩|exact ⟨rfl,rfl⟩));refine NQ ?_;iterate 1 refine DS0 ?_
  repeat' (first|((first|refine wA1 ?_|(refine GA ?_ ?_<;>intro hg)|(refine GV ?_;intros;simp only [nz])|refine wA6 ?_)<;>try refine wN20 ?_)|refine wT8 ?_|with_reducible intro Q' hQ'|(refine GC ?_ ?_<;>intro hc)|simp only [laq])
  refine ⟨a + 1,by omega,by omega,?_⟩;rw [hO2];exact Gh.W
 ·obtain rfl:a=l.length:=by omega
  have q2:decide ((l.length:Int) < (l.length:Int))=false:=by simp
  rw [List.take_length];generalize tokF o l=o2 at *
  repeat' (first|((first|refine wA1 ?_|(refine GA ?_ ?_<;>intro hg)|(refine GV ?_;intros;simp only [nz])|refine wA6 ?_)<;>try refine wN9 ?_)|refine wT8 ?_|with_reducible intro Q' hQ'|(refine GC ?_ ?_<;>intro hc)|simp only [laq])
  exact RA0
def tok0:Tok:=⟨0,[],z32⟩
def mintS (key:List UInt8) (ten:Int) (g:Gr):Tok×Int:=if mayT ⟨ten,[g],z32⟩=false then (tok0,2) else (⟨ten,[g],tokT key ten [g]⟩,0)
abbrev eTokO (t:Tok):List AV:=[I t.ten,.sl (some 47) 3 (t.line.map eGr),U (t.tag.getD 0 0),U (t.tag.getD 1 0),U (t.tag.getD 2 0),U (t.tag.getD 3 0),U (t.tag.getD 4 0),U (t.tag.getD 5 0),U (t.tag.getD 6 0),U (t.tag.getD 7 0),U (t.tag.getD 8 0),U (t.tag.getD 9 0),U (t.tag.getD 10 0),U (t.tag.getD 11 0),U (t.tag.getD 12 0),U (t.tag.getD 13 0),U (t.tag.getD 14 0),U (t.tag.getD 15 0),U (t.tag.getD 16 0),U (t.tag.getD 17 0),U (t.tag.getD 18 0),U (t.tag.getD 19 0),U (t.tag.getD 20 0),U (t.tag.getD 21 0),U (t.tag.getD 22 0),U (t.tag.getD 23 0),U (t.tag.getD 24 0),U (t.tag.getD 25 0),U (t.tag.getD 26 0),U (t.tag.getD 27 0),U (t.tag.getD 28 0),U (t.tag.getD 29 0),U (t.tag.getD 30 0),U (t.tag.getD 31 0)]
theorem roGr (l:List Gr):roE (l.map eGr)=l.map eGr:=by rw [roE_map];exact List.map_congr_left fun x _=>by simp only [roC,AV.ro]
theorem mintO_ac (key:List UInt8) (hk:key.length<=1000000) (ten:Int) (g:Gr):AF 61 [bs none key,I ten,.ag (eGr g)] (.tu [.ag (eTokO (mintS key ten g).1),I (mintS key ten g).2]):=by
 have h1:=tmay_ac ⟨ten,[g],z32⟩ (by simp)
 cases hm:mayT ⟨ten,[g],z32⟩ with
 | false=>
  rw [hm] at h1;rw [show mintS key ten g=(tok0,2) from if_pos hm];refine AC.E func61 ntmps61 ?_;intros
  repeat' (first|((first|refine wA1 ?_|(refine GA ?_ ?_<;>intro hg)|(refine GV ?_;intros;simp only [nz])|refine wA6 ?_)<;>try refine NQ ?_)|refine wT3 ?_|with_reducible intro Q' hQ'|(refine GC ?_ ?_<;>intro hc)|simp only [laq])
  exact RA0
 | true=>
  rw [hm] at h1;rw [show mintS key ten g=(⟨ten,[g],tokT key ten [g]⟩,0) from if_neg (by rw [hm];simp)];have h2:=ttag_ac key hk ⟨ten,[g],z32⟩ g [] rfl (by simp);dsimp only at h2;generalize tokT key ten [g]=o at *;refine AC.E func61 ntmps61 ?_;intros
  repeat' (first|((first|refine wA1 ?_|(refine GA ?_ ?_<;>intro hg)|(refine GV ?_;intros;simp only [nz])|((with_reducible apply AP.k_any);refine AP.CL (h2) (hnr:=nrG _) ?_)|refine wA6 ?_)<;>try refine NQ ?_)|refine wT3 ?_|with_reducible intro Q' hQ'|(refine GC ?_ ?_<;>intro hc)|simp only [laq])
  exact RA0
theorem mint_ac (key:List UInt8) (hk:key.length<=1000000) (ten:Int) (g:Gr):AF 61 [bs none key,I ten,.ag (eGr g)] (.tu [.ag (eTok (mintS key ten g).1),I (mintS key ten g).2]):=(mintO_ac key hk ten g).ro (by simp only [AV.ro,roC,roGr])
def checkT (key:List UInt8) (t:Tok):Int:=if mayT t=false then 90 else if tokT key t.ten t.line=t.tag then 0 else 91
theorem mayT_line {t:Tok} (h:mayT t=true):1<=t.line.length/\t.line.length<=4:=by
 simp only [mayT,lineS,Bool.and_eq_true,decide_eq_true_eq] at h;exact ⟨h.2.1.1,h.2.1.2⟩
theorem check_ac (key:List UInt8) (hk:key.length<=1000000) (t:Tok) (ht:t.tag.length=32) (hl:t.line.length<=1000000):AF 16 [bs none key,.ag (eTok t)] (I (checkT key t)):=by
 have h1:=tmay_ac t hl
 cases hm:mayT t with
 | false=>
  rw [hm] at h1;rw [show checkT key t=90 from if_pos hm];refine AC.E func16 ntmps16 ?_;intros
  repeat' (first|((first|refine wA1 ?_|(refine GA ?_ ?_<;>intro hg)|(refine GV ?_;intros;simp only [nz])|refine wA6 ?_|refine wD1 ?_)<;>try refine NQ ?_)|refine wT6 ?_|with_reducible intro Q' hQ'|(refine GC ?_ ?_<;>intro hc)|simp only [laq])
  exact RA0
 | true=>
  rw [hm] at h1;rw [show checkT key t=if tokT key t.ten t.line=t.tag then 0 else 91 from if_neg (by rw [hm];simp)];have hml:=mayT_line hm
  obtain ⟨g,l,hgl⟩:∃ g l,t.line=g :: l:=by
   cases h:t.line with
   | nil=>rw [h] at hml;simp at hml
   | cons g l=>exact ⟨g,l,rfl⟩
  have h2:=ttag_ac key hk t g l hgl hl;have hol:(tokT key t.ten t.line).length=32:=by rw [hgl];exact tokF_len l _ rfl
  generalize tokT key t.ten t.line=o at *;have h3:=hsame_ac o t.tag hol ht
  by_cases he:o=t.tag
  ·rw [decide_eq_true he] at h3;rw [if_pos he];refine AC.E func16 ntmps16 ?_;intros
   repeat' (first|((first|refine wA1 ?_|(refine GA ?_ ?_<;>intro hg)|(refine GV ?_;intros;simp only [nz])|refine wA6 ?_|refine wD1 ?_)<;>try refine NQ ?_)|refine wT6 ?_|with_reducible intro Q' hQ'|(refine GC ?_ ?_<;>intro hc)|simp only [laq])
   exact RA0
  ·rw [decide_eq_false he] at h3;rw [if_neg he];refine AC.E func16 ntmps16 ?_;intros
   repeat' (first|((first|refine wA1 ?_|(refine GA ?_ ?_<;>intro hg)|(refine GV ?_;intros;simp only [nz])|refine wA6 ?_|refine wD1 ?_)<;>try refine NQ ?_)|refine wT6 ?_|with_reducible intro Q' hQ'|(refine GC ?_ ?_<;>intro hc)|simp only [laq])
   exact RA0
def verS (key:List UInt8) (t:Tok) (now:Int) (need:UInt8):Int:=if checkT key t=0 then (if (leavesS t.line).2.1<=now then 92 else if hasR (leavesS t.line).1 need=false then 94 else 0) else checkT key t
theorem verify_ac (key:List UInt8) (hk:key.length<=1000000) (t:Tok) (ht:t.tag.length=32) (hl:t.line.length<=1000000) (now:Int) (need:UInt8):AF 111 [bs none key,.ag (eTok t),I now,U need] (I (verS key t now need)):=by
 have h1:=check_ac key hk t ht hl;have h2:=leaves_ac t.line hl;have h3:=has_ac (leavesS t.line).1 need;unfold verS;generalize checkT key t=c at *;generalize (leavesS t.line).1=r at *;generalize (leavesS t.line).2.1=x at *;generalize (leavesS t.line).2.2=y at *
 by_cases hc:c=0
 ·subst hc;rw [if_pos rfl];have q0:((0:Int) != 0)=false:=rfl
  by_cases hx:x<=now
  ·rw [if_pos hx];have q1:=decide_eq_true hx;refine AC.E func111 ntmps111 ?_;intros;iterate 2 refine CP.SL ?_
   repeat' (first|((first|refine wA1 ?_|(refine GA ?_ ?_<;>intro hg)|(refine GV ?_;intros;simp only [nz])|refine wA6 ?_)<;>try refine wN11 ?_)|refine wT3 ?_|with_reducible intro Q' hQ'|(refine GC ?_ ?_<;>intro hc)|simp only [laq])
   exact RA0
  ·rw [if_neg hx];have q1:=decide_eq_false hx
   cases hh:hasR r need with
   | false=>
    rw [hh] at h3;rw [if_pos rfl];refine AC.E func111 ntmps111 ?_;intros;iterate 2 refine CP.SL ?_
    repeat' (first|((first|refine wA1 ?_|(refine GA ?_ ?_<;>intro hg)|(refine GV ?_;intros;simp only [nz])|refine wA6 ?_)<;>try refine wN11 ?_)|refine wT3 ?_|with_reducible intro Q' hQ'|(refine GC ?_ ?_<;>intro hc)|simp only [laq])
    exact RA0
   | true=>
    rw [hh] at h3;rw [if_neg (by simp)];refine AC.E func111 ntmps111 ?_;intros;iterate 2 refine CP.SL ?_
    repeat' (first|((first|refine wA1 ?_|(refine GA ?_ ?_<;>intro hg)|(refine GV ?_;intros;simp only [nz])|refine wA6 ?_)<;>try refine wN11 ?_)|refine wT3 ?_|with_reducible intro Q' hQ'|(refine GC ?_ ?_<;>intro hc)|simp only [laq])
    exact RA0
 ·rw [if_neg hc];have q0:(c != 0)=true:=by simpa using hc
  refine AC.E func111 ntmps111 ?_;intros;iterate 2 refine CP.SL ?_
  repeat' (first|((first|refine wA1 ?_|(refine GA ?_ ?_<;>intro hg)|(refine GV ?_;intros;simp only [nz])|refine wA6 ?_)<;>try refine wN5 ?_)|refine wT3 ?_|with_reducible intro Q' hQ'|(refine GC ?_ ?_<;>intro hc)|simp only [laq])
  exact RA0
