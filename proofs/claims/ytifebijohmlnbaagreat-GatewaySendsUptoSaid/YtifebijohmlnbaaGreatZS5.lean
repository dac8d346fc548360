/-
  Texts joined: H9, Q4, Q5, Q6, W12, W13, Lk2, Lk3, Lk4, Q7, Le1, Le2, Le3, Le4, W6, W7, M1, W8, M2, M3, M4, V3, Va, M5, W14, M6, M7, M8.
-/
import Derived.Test.YtifebijohmlnbaaGreatZS1
import Derived.Test.YtifebijohmlnbaaGreatZS2
import Derived.Test.YtifebijohmlnbaaGreatZS3
import Derived.Test.YtifebijohmlnbaaGreatZS4
namespace Go.Proofs.YtifebijohmlnbaaGreat
set_option linter.unusedVariables false
set_option linter.unusedSimpArgs false
open Go.RowKit
set_option maxRecDepth 100000
set_option maxHeartbeats 8000000
theorem sclone_ac (a:List UInt8) (ha:a.length≤100000000) :
 AC Tryz.prog 56 [bs none a] [] (fun v bs'=>v=bs (some tU) a∧bs'=[]):=by
 refine AC.N Tryz.func56 Tryz.ntmps56 ?_;intro X hρ hmks;refine NX ?_
 repeat' (first|((first|refine wA4 ?_|(refine GV ?_;intro c hnil;simp only [nz]))<;>(try refine NX ?_))|refine wT4 ?_|with_reducible intro Q' hQ'|(refine GC ?_;refine ⟨fun hc=>?_,fun hc=>?_⟩)|simp only [la])
 ·obtain rfl:a=[]:=by simpa using hnil hc
  (exact RetQ.A [] (by exact ⟨rfl,rfl⟩))
 ·(refine RetQ.B [] ?_;(try dsimp only [resV,List.getD_cons_succ,List.getD_cons_zero]);(exact ⟨by simp,rfl⟩))
theorem nr_tg (t:List UInt8):NR (tg t):=by
 apply NR.ag;intro a ha;rw [←mixT_32] at ha;obtain ⟨j,_,rfl⟩:=List.mem_map.1 ha;exact NR.sc
theorem seal_ac (root:List UInt8) (p:Pkt) (hr:root.length≤10000) (hp:p.body.length≤60000):AC Tryz.prog 135 [bs none root,.ag (eP p)] [] (fun v bs'=>v=.ag (ePO { p with tag:=tagS root p })∧bs'=[]):=by
 have h1:=sclone_ac p.body (by omega);have h2:=ltag_ac root p hr hp;generalize tagS root p=t at *;refine AC.N Tryz.func135 Tryz.ntmps135 ?_;intro X hρ hmks;refine NX ?_;refine CP.gh gh_slot ?_;refine NX ?_
 refine CP.gh gh_slot ?_;refine NX ?_
 repeat' (first|((first|refine wA7 ?_|((with_reducible apply AP.k_any);refine AP.CL (h2) (hnr:=nr_tg t) ?_)|refine wA2 ?_)<;>(try simp only [nx,q4,rn,fq,Nat.mul_one,Bool.and_true,Bool.and_false,Nat.reduceBEq,Nat.reduceAdd,Nat.reduceSub,BEq.rfl]))|refine wT4 ?_|with_reducible intro Q' hQ'|(refine GC ?_;refine ⟨fun hc=>?_,fun hc=>?_⟩)|simp only [la])
 (refine RetQ.B [] ?_;(try dsimp only [resV,List.getD_cons_succ,List.getD_cons_zero]);(exact ⟨rfl,rfl⟩))
theorem numS_take (l:List Int) {i:Nat} (h:i < l.length):numS (l.take (i + 1))=numS (l.take i) ++ intS l[i]:=by
 rw [List.take_succ_eq_append_getElem h,numS_snoc]
theorem headS_num (p:Pkt):headS p=numS [p.frm,p.to,p.epoch,p.boot,p.seqn] ++ (putS p.body.length 4 ++ p.body):=by
 simp [headS,numS]
theorem dhead_ac (p:Pkt) (hp:p.body.length≤60000):AC Tryz.prog 169 [.ag (eP p)] [] (fun v bs'=>v=bs (some tU) (headS p)∧bs'=[]):=by
 have h2:=(dbytes_ac p.body (by omega)).ro (r2:=bs none (putS p.body.length 4 ++ p.body)) (by simp only [AV.ro,ro_B]);rw [headS_num];have hpl:(putS p.body.length 4 ++ p.body).length≤70000:=by simp [putS_length];omega
 generalize putS p.body.length 4 ++ p.body=y at *;have hL:[p.frm,p.to,p.epoch,p.boot,p.seqn].length=5:=rfl;refine AC.N Tryz.func169 Tryz.ntmps169 ?_;intro X hρ hmks;refine NX ?_;refine CP.gh gh_slot ?_;refine NX ?_
 repeat' (first|((first|refine wA7 ?_|((with_reducible apply AP.k_any);first|refine AP.E ?_)|refine wA2 ?_)<;>(try simp only [nx,q4,rn,fq,Nat.mul_one,Bool.and_true,Bool.and_false,Nat.reduceBEq,Nat.reduceAdd,Nat.reduceSub,BEq.rfl]))|refine wT4 ?_|with_reducible intro Q' hQ'|(refine GC ?_;refine ⟨fun hc=>?_,fun hc=>?_⟩)|simp only [la])
 refine CP.gh (gh_nil (t:=3) (e:=tU) (k:=1) rfl) ?_;refine NX ?_;refine cp_loopS [3,5,17,18,19,20,21,22,23,24,25,26,27,28,29] (fun a:Nat×Nat=>5 - a.1) (fun a=>a.1≤5) (fun a=>[(5,I a.1),(3,.hd 2 a.2)]) (fun a=>[(2,⟨a.2,.r tU 1 ((numS ([p.frm,p.to,p.epoch,p.boot,p.seqn].take a.1)).map eB)⟩)]) (0,1) (Nat.zero_le _) (by exact Gh.W) ?_;rintro ⟨i,u⟩ hi;simp only [setT,deT,setB,List.set_cons_succ,List.set_cons_zero];dsimp only at hi;have hln:=numS_length ([p.frm,p.to,p.epoch,p.boot,p.seqn].take i)
 by_cases hlt:i < 5
 ·have hw:IntKind.i64.wrap ((i:Int) + 1)=((i + 1:Nat):Int):=wrap_i64 (by omega) (by omega);have d5:decide ((i:Int) < ((5:Nat):Int))=true:=by simp;omega
  have hx:([[I p.frm],[I p.to],[I p.epoch],[I p.boot],[I p.seqn]]:List (List AV))[i]? = some [I ([p.frm,p.to,p.epoch,p.boot,p.seqn][i]'(by rw [hL];exact hlt))]:=by
   rcases i with _ | _ | _ | _ | _|i<;>first|rfl|(exfalso;omega)
  have hn:=numS_take [p.frm,p.to,p.epoch,p.boot,p.seqn] (i:=i) (by rw [hL];exact hlt);generalize [p.frm,p.to,p.epoch,p.boot,p.seqn][i]'(by rw [hL];exact hlt)=n at *;have h1:=dint_ac n;have hil:=intS_length n
  have hlen:((numS ([p.frm,p.to,p.epoch,p.boot,p.seqn].take i)).map eB).length + ((intS n).map eB).length≤1000000000:=by
   rw [List.length_map,List.length_map,hln,hil,List.length_take];omega
  generalize numS ([p.frm,p.to,p.epoch,p.boot,p.seqn].take i)=W at *;generalize intS n=z at *
  repeat' (first|((first|refine wA7 ?_|((with_reducible apply AP.k_any);first|refine AP.E ?_)|refine wA2 ?_)<;>(try simp only [d5,nx,q4,rn,fq,Nat.mul_one,Bool.and_true,Bool.and_false,Nat.reduceBEq,Nat.reduceAdd,Nat.reduceSub,BEq.rfl]))|refine wT4 ?_|with_reducible intro Q' hQ'|(refine GC ?_;refine ⟨fun hc=>?_,fun hc=>?_⟩)|simp only [la])
  simp only [hw];refine ⟨(i + 1,u + 1),by (dsimp only;omega),by (dsimp only;omega),?_⟩;dsimp only;rw [hn,List.map_append];exact Gh.W
 ·obtain rfl:i=5:=by omega
  have d5:decide (((5:Nat):Int) < ((5:Nat):Int))=false:=by simp
  rw [List.take_of_length_le (by rw [hL];omega)] at hln ⊢
  have hlen:((numS [p.frm,p.to,p.epoch,p.boot,p.seqn]).map eB).length + (y.map eB).length≤1000000000:=by
   rw [List.length_map,List.length_map,hln,hL];omega
  repeat' (first|((first|refine wA7 ?_|((with_reducible apply AP.k_any);first|refine AP.E ?_)|refine wA2 ?_)<;>(try simp only [d5,nx,q4,rn,fq,Nat.mul_one,Bool.and_true,Bool.and_false,Nat.reduceBEq,Nat.reduceAdd,Nat.reduceSub,BEq.rfl]))|refine wT4 ?_|with_reducible intro Q' hQ'|(refine GC ?_;refine ⟨fun hc=>?_,fun hc=>?_⟩)|simp only [la])
  (refine RetQ.B [] ?_;(try dsimp only [resV,List.getD_cons_succ,List.getD_cons_zero]);(exact ⟨by simp,rfl⟩))
theorem dtag_ac' (t:List UInt8) (ht:t.length=32):AC Tryz.prog 171 [tg t] [] (fun v bs'=>v=bs none t∧bs'=[]):=by
 have h1:=(dbytes03_ac t ht).ro (r2:=bs none t) (by simp only [AV.ro,ro_B]);refine AC.N Tryz.func171 Tryz.ntmps171 ?_;intro X hρ hmks;refine NX ?_
 repeat' (first|((first|refine wA7 ?_|refine wA2 ?_)<;>(try simp only [nx,q4,rn,fq,Nat.mul_one,Bool.and_true,Bool.and_false,Nat.reduceBEq,Nat.reduceAdd,Nat.reduceSub,BEq.rfl]))|refine wT4 ?_|with_reducible intro Q' hQ'|(refine GC ?_;refine ⟨fun hc=>?_,fun hc=>?_⟩)|simp only [la])
 (exact RetQ.A [] (by exact ⟨rfl,rfl⟩))
theorem dpbytes_ac (p:Pkt) (hp:p.body.length≤60000) (ht:p.tag.length=32):AC Tryz.prog 101 [.ag (eP p)] [] (fun v bs'=>v=bs none (headS p ++ p.tag)∧bs'=[]):=by
 have hl:=headS_len p;have h1:=(dhead_ac p hp).ro (r2:=bs none (headS p)) (by simp only [AV.ro,ro_B]);have h2:=dtag_ac' p.tag ht;have h3:=(cat_ac (headS p) p.tag (by omega) (by omega)).ro (r2:=bs none (headS p ++ p.tag)) (by simp only [AV.ro,ro_B]);generalize headS p ++ p.tag=x at *;generalize headS p=y at *;refine AC.N Tryz.func101 Tryz.ntmps101 ?_;intro X hρ hmks;refine NX ?_;refine CP.gh gh_slot ?_;refine NX ?_
 repeat' (first|((first|refine wA7 ?_|refine wA2 ?_|refine wD5 ?_)<;>(try simp only [nx,q4,rn,fq,Nat.mul_one,Bool.and_true,Bool.and_false,Nat.reduceBEq,Nat.reduceAdd,Nat.reduceSub,BEq.rfl]))|refine wT5 ?_|with_reducible intro Q' hQ'|(refine GC ?_;refine ⟨fun hc=>?_,fun hc=>?_⟩)|simp only [la])
 (exact RetQ.A [] (by exact ⟨rfl,rfl⟩))
theorem dtagP_ac (root:List UInt8) (p:Pkt) (hr:root.length≤10000) (hp:p.body.length≤60000):AC Tryz.prog 100 [bs none root,.ag (eP p)] [] (fun v bs'=>v=tg (tagS root p)∧bs'=[]):=by
 have hl:=headS_len p;have h1:=dderive_ac root lkS [p.frm,p.to,p.epoch] (by omega) (by decide) (by simp);have h2:=(dhead_ac p hp).ro (r2:=bs none (headS p)) (by simp only [AV.ro,ro_B]);have hd:(deriveS root lkS [p.frm,p.to,p.epoch]).length=32:=hmacS_len _ _;have h4:=dhmac_ac (deriveS root lkS [p.frm,p.to,p.epoch]) (headS p) (by omega) (by omega);unfold tagS;generalize deriveS root lkS [p.frm,p.to,p.epoch]=k at *;generalize headS p=y at *;have d1:decide ((65536:Int) < (y.length:Int))=false:=by simp;omega
 generalize hmacS k y=t at *;refine AC.N Tryz.func100 Tryz.ntmps100 ?_;intro X hρ hmks;refine NX ?_;refine CP.gh gh_slot ?_;refine NX ?_
 refine CP.gh gh_slot ?_;refine NX ?_
 repeat' (first|((first|refine wA7 ?_|refine wA2 ?_)<;>(try simp only [d1,nx,q4,rn,fq,Nat.mul_one,Bool.and_true,Bool.and_false,Nat.reduceBEq,Nat.reduceAdd,Nat.reduceSub,BEq.rfl]))|refine wT4 ?_|with_reducible intro Q' hQ'|(refine GC ?_;refine ⟨fun hc=>?_,fun hc=>?_⟩)|simp only [la])
 (exact RetQ.A [] (by exact ⟨rfl,rfl⟩))
abbrev Sd:=Int×Int
abbrev kS (p:Sd):Value:=.agg #[.int .i64 p.1,.int .i64 p.2]
structure Ends where
 root:List UInt8
 who:Int
 boot:Int
 sent:List (Sd×Int)
 wins:List (Sd×Wn)
abbrev tEn:TypeId:=135
abbrev keyN (l:List (Sd×Int)):List Value:=l.map fun p=>kS p.1
abbrev rowN (l:List (Sd×Int)):List (List AV):=l.map fun p=>[I p.2]
abbrev keyW (l:List (Sd×Wn)):List Value:=l.map fun p=>kS p.1
abbrev rowW (l:List (Sd×Wn)):List (List AV):=l.map fun p=>[.ob tWn (wC p.2)]
abbrev enE (x:Ends):List AV:=[B true,bs none x.root,I x.who,I x.boot,.mo (keyN x.sent) (rowN x.sent),.mo (keyW x.wins) (rowW x.wins)]
abbrev xE (x:Ends):Bx:=.c tEn (enE x)
theorem lnew_ac (root:List UInt8) (who boot:Int) (hr:root.length≤100000000):AC Tryz.prog 22 [bs none root,I who,I boot] [] (fun v bs'=>v=.bp 0 0 0∧bs'=[xE ⟨root,who,boot,[],[]⟩]):=by
 have h1:=sclone_ac root hr;refine AC.N Tryz.func22 Tryz.ntmps22 ?_;intro X hρ hmks;refine NX ?_;refine CP.gh gh_slot ?_;refine NX ?_
 refine CP.gh gh_slot ?_;refine NX ?_
 refine CP.gh gh_slot ?_;refine NX ?_
 refine CP.gh gh_slot ?_;refine NX ?_
 repeat' (first|((first|refine wA1 ?_|(refine GA ?_;refine ⟨fun hg=>?_,fun hg=>?_⟩)|(refine GV ?_;intro c hnil;simp only [nz])|refine wA2 ?_)<;>(try refine NQ ?_))|refine wT3 ?_|with_reducible intro Q' hQ'|(refine GC ?_;refine ⟨fun hc=>?_,fun hc=>?_⟩)|simp only [la])
 (exact RetQ.Fz [(3,1)] (by exact ⟨rfl,rfl⟩))
theorem lnone_ac (x:Ends):AC Tryz.prog 106 [.bp 0 0 0] [xE x] (fun v bs'=>v=B false∧bs'=[xE x]):=by
 refine AC.N Tryz.func106 Tryz.ntmps106 ?_;intro X hρ hmks;refine NX ?_
 repeat' (first|((first|refine wA1 ?_|(refine GA ?_;refine ⟨fun hg=>?_,fun hg=>?_⟩)|(refine GV ?_;intro c hnil;simp only [nz])|refine wA2 ?_)<;>(try refine NQ ?_))|refine wT3 ?_|with_reducible intro Q' hQ'|(refine GC ?_;refine ⟨fun hc=>?_,fun hc=>?_⟩)|simp only [la])
 (exact RetQ.A [(0,0)] (by exact ⟨rfl,rfl⟩))
abbrev tSd:TypeId:=202
theorem kin (l:List Value) (h:∀ k∈l,∃ p:Sd,k=kS p):∀ k∈l,isKey Tryz.prog tSd [.i .i64,.i .i64] k=true:=fun k hk=>by
 obtain ⟨p,rfl⟩:=h k hk;have hA:aggT Tryz.prog tSd=true:=by kernel_rfl
 unfold isKey;rw [hA];rfl
theorem kinS {α:Type} (l:List (Sd×α)):∀ k∈l.map (fun p=>kS p.1),isKey Tryz.prog tSd [.i .i64,.i .i64] k=true:=kin _ fun k hk=>by
 obtain ⟨p,_,rfl⟩:=List.mem_map.1 hk;exact ⟨_,rfl⟩
theorem kEq_kS (a b:Sd):kEq (kS a) (kS b)=decide (a=b):=by
 obtain ⟨a1,a2⟩:=a;obtain ⟨b1,b2⟩:=b;simp only [kEq,eqVs,eqV1,Bool.and_true];rw [Bool.eq_iff_iff];simp
/-- where a side stands -/
def at_ {α:Type} (s:Sd):List (Sd×α)→Option Nat
 | []=>none
 | p :: l=>if s=p.1 then some 0 else (at_ s l).map (· + 1)
theorem fnd_at_ {α:Type} (s:Sd):∀ l:List (Sd×α),fnd (kS s) (l.map fun p=>kS p.1)=at_ s l
 | []=>rfl
 | p :: l=>by
  simp only [List.map_cons,fnd,kEq_kS,at_,fnd_at_ s l]
  by_cases h:s=p.1
  ·simp [h]
  ·simp only [h,decide_false,if_false]
   cases at_ s l<;>rfl
theorem at_some {α:Type} {s:Sd}:∀ {l:List (Sd×α)} {n:Nat},at_ s l=some n→∃ x,l[n]? = some (s,x)
 | [],_,h=>by simp [at_] at h
 | p :: l,n,h=>by
  unfold at_ at h;split at h
  ·rename_i hs;injection h with h;subst h;exact ⟨p.2,by simp [hs]⟩
  ·obtain ⟨m,hm,rfl⟩:=Option.map_eq_some_iff.1 h;obtain ⟨x,hx⟩:=at_some hm;exact ⟨x,by simpa using hx⟩
/-- a side's, or what stands for none -/
def got {α:Type} (s:Sd) (l:List (Sd×α)) (d:α):α:=match at_ s l with
 | some n=>match l[n]? with
  | some p=>p.2
  | none=>d
 | none=>d
def puts {α:Type} (s:Sd) (l:List (Sd×α)) (v:α):List (Sd×α):=match at_ s l with
 | some n=>l.set n (s,v)
 | none=>l ++ [(s,v)]
def Ends.pkt (x:Ends) (to epoch:Int) (body:List UInt8):Pkt:=⟨x.who,to,epoch,x.boot,got (to,epoch) x.sent 0 + 1,body,List.replicate 32 0⟩
def Ends.sealed (x:Ends) (to epoch:Int) (body:List UInt8):Pkt:={ x.pkt to epoch body with tag:=tagS x.root (x.pkt to epoch body) }
def Ends.bump (x:Ends) (to epoch:Int):Ends:={ x with sent:=puts (to,epoch) x.sent (got (to,epoch) x.sent 0 + 1) }
theorem print_acO (p:Pkt) (hp:p.body.length≤60000) (ht:p.tag.length=32):AC Tryz.prog 134 [.ag (ePO p)] [] (fun v bs'=>v=.tu [if mayP p then bs none (headS p ++ p.tag) else bs none [],I (if mayP p then 0 else 2)]∧bs'=[]):=by
 refine AC.own ?_
 have e:roC [.ag (ePO p)]=[.ag (eP p)]:=by
  simp only [roC,AV.ro,ePO,eP,tagC,List.cons_append,List.nil_append,ro_B]
 rw [e];exact lprint_ac p hp ht
theorem tagC_z:tagC (List.replicate 32 0)=[.sc (.int .u8 0),.sc (.int .u8 0),.sc (.int .u8 0),.sc (.int .u8 0),.sc (.int .u8 0),.sc (.int .u8 0),.sc (.int .u8 0),.sc (.int .u8 0),.sc (.int .u8 0),.sc (.int .u8 0),.sc (.int .u8 0),.sc (.int .u8 0),.sc (.int .u8 0),.sc (.int .u8 0),.sc (.int .u8 0),.sc (.int .u8 0),.sc (.int .u8 0),.sc (.int .u8 0),.sc (.int .u8 0),.sc (.int .u8 0),.sc (.int .u8 0),.sc (.int .u8 0),.sc (.int .u8 0),.sc (.int .u8 0),.sc (.int .u8 0),.sc (.int .u8 0),.sc (.int .u8 0),.sc (.int .u8 0),.sc (.int .u8 0),.sc (.int .u8 0),.sc (.int .u8 0),.sc (.int .u8 0)]:=by
 have h:∀ i,i < 32→(List.replicate 32 (0:UInt8)).getD i 0=0:=fun i hi=>by rw [List.getD_eq_getElem?_getD,List.getElem?_replicate,if_pos hi];rfl
 have h0:(((0:UInt8).toNat:Nat):Int)=0:=rfl;simp only [tagC,h _ (by decide:0 < 32),h _ (by decide:1 < 32),h _ (by decide:2 < 32),h _ (by decide:3 < 32),h _ (by decide:4 < 32),h _ (by decide:5 < 32),h _ (by decide:6 < 32),h _ (by decide:7 < 32),h _ (by decide:8 < 32),h _ (by decide:9 < 32),h _ (by decide:10 < 32),h _ (by decide:11 < 32),h _ (by decide:12 < 32),h _ (by decide:13 < 32),h _ (by decide:14 < 32),h _ (by decide:15 < 32),h _ (by decide:16 < 32),h _ (by decide:17 < 32),h _ (by decide:18 < 32),h _ (by decide:19 < 32),h _ (by decide:20 < 32),h _ (by decide:21 < 32),h _ (by decide:22 < 32),h _ (by decide:23 < 32),h _ (by decide:24 < 32),h _ (by decide:25 < 32),h _ (by decide:26 < 32),h _ (by decide:27 < 32),h _ (by decide:28 < 32),h _ (by decide:29 < 32),h _ (by decide:30 < 32),h _ (by decide:31 < 32),U,h0]
theorem eP_z (f t e b s:Int) (y:List UInt8):eP ⟨f,t,e,b,s,y,List.replicate 32 0⟩=[I f,I t,I e,I b,I s,bs none y,.sc (.int .u8 0),.sc (.int .u8 0),.sc (.int .u8 0),.sc (.int .u8 0),.sc (.int .u8 0),.sc (.int .u8 0),.sc (.int .u8 0),.sc (.int .u8 0),.sc (.int .u8 0),.sc (.int .u8 0),.sc (.int .u8 0),.sc (.int .u8 0),.sc (.int .u8 0),.sc (.int .u8 0),.sc (.int .u8 0),.sc (.int .u8 0),.sc (.int .u8 0),.sc (.int .u8 0),.sc (.int .u8 0),.sc (.int .u8 0),.sc (.int .u8 0),.sc (.int .u8 0),.sc (.int .u8 0),.sc (.int .u8 0),.sc (.int .u8 0),.sc (.int .u8 0),.sc (.int .u8 0),.sc (.int .u8 0),.sc (.int .u8 0),.sc (.int .u8 0),.sc (.int .u8 0),.sc (.int .u8 0)]:=congrArg (fun l=>I f :: I t :: I e :: I b :: I s :: bs none y :: l) tagC_z
theorem mayP_tag (p:Pkt) (t:List UInt8):mayP { p with tag:=t }=mayP p:=rfl
theorem headS_tag (p:Pkt) (t:List UInt8):headS { p with tag:=t }=headS p:=rfl
theorem puts_keys {α:Type} {s:Sd} {l:List (Sd×α)} {n:Nat} (h:at_ s l=some n) (v:α):(l.set n (s,v)).map (fun p=>kS p.1)=l.map fun p=>kS p.1:=by
 obtain ⟨x,hx⟩:=at_some h;apply List.ext_getElem?;intro i;rw [List.getElem?_map,List.getElem?_map,List.getElem?_set];split
 ·rename_i hi;subst hi
  rw [hx,if_pos (List.getElem?_eq_some_iff.1 hx).1];rfl
 ·rfl
theorem send_no (x:Ends) (to epoch:Int) (body:List UInt8) (hr:x.root.length≤10000) (hb:body.length≤60000) (hn:0≤got (to,epoch) x.sent 0∧got (to,epoch) x.sent 0≤1000000000) (hm:mayP (x.pkt to epoch body)=false) :
 AC Tryz.prog 73 [.bp 0 0 0,I to,I epoch,bs none body] [xE x] (fun v bs'=>v=.tu [bs none [],I 2]∧bs'=[xE x]):=by
 have hm':mayP (x.sealed to epoch body)=false:=(mayP_tag _ _).trans hm;have h1:=lnone_ac x;have h2:=seal_ac x.root (x.pkt to epoch body) hr hb;have h3:=print_acO (x.sealed to epoch body) hb (tagS_len _ _);have hk:=kinS x.sent;have hf:=fnd_at_ (to,epoch) x.sent;rw [hm'] at h3;simp only [Bool.false_eq_true,if_false] at h3;have hw:IntKind.i64.wrap (got (to,epoch) x.sent 0 + 1)=got (to,epoch) x.sent 0 + 1:=wrap_i64 (by omega) (by omega);unfold Ends.sealed at *;generalize tagS x.root (x.pkt to epoch body)=T at *;unfold Ends.pkt at *;rw [eP_z] at h2
 cases ha:at_ (to,epoch) x.sent with
 | none=>
  have hg:got (to,epoch) x.sent 0=0:=by unfold got;rw [ha]
  rw [ha] at hf;rw [hg] at hw h2 h3;refine AC.N Tryz.func73 Tryz.ntmps73 ?_;intro X hρ hmks;refine NX ?_;refine CP.gh gh_slot ?_;refine NX ?_
  refine CP.gh gh_slot ?_;refine NX ?_
  refine CP.gh gh_slot ?_;refine NX ?_
  repeat' (first|((first|refine wA1 ?_|(refine GA ?_;refine ⟨fun hg=>?_,fun hg=>?_⟩)|(refine GV ?_;intro c hnil;simp only [nz])|refine wA2 ?_|refine wD3 ?_)<;>(try simp only [hw,nq,Nat.reduceBEq,Nat.reduceAdd,Nat.reduceSub]))|refine wT2 ?_|with_reducible intro Q' hQ'|(refine GC ?_;refine ⟨fun hc=>?_,fun hc=>?_⟩)|simp only [la])
  (exact RetQ.A [(0,0)] (by exact ⟨rfl,rfl⟩))
 | some n=>
  obtain ⟨v,hv⟩:=at_some ha;have hg:got (to,epoch) x.sent 0=v:=by unfold got;rw [ha];dsimp only;rw [hv]
  have hro:=rowAt_map (e:=fun p:Sd×Int=>[I p.2]) hv rfl;rw [ha] at hf;rw [hg] at hw h2 h3;refine AC.N Tryz.func73 Tryz.ntmps73 ?_;intro X hρ hmks;refine NX ?_;refine CP.gh gh_slot ?_;refine NX ?_
  refine CP.gh gh_slot ?_;refine NX ?_
  refine CP.gh gh_slot ?_;refine NX ?_
  repeat' (first|((first|refine wA1 ?_|(refine GA ?_;refine ⟨fun hg=>?_,fun hg=>?_⟩)|(refine GV ?_;intro c hnil;simp only [nz])|refine wA2 ?_|refine wD3 ?_)<;>(try simp only [hw,nq,Nat.reduceBEq,Nat.reduceAdd,Nat.reduceSub]))|refine wT2 ?_|with_reducible intro Q' hQ'|(refine GC ?_;refine ⟨fun hc=>?_,fun hc=>?_⟩)|simp only [la])
  (exact RetQ.A [(0,0)] (by exact ⟨rfl,rfl⟩))
theorem wT6 {G G':Prop} (K:G') (h:G'→G:=by (intro kz;first|exact CP.TN kz|((with_reducible apply CP.k_reg);exact cp_regG kz))):G:=h K
theorem send_ok (x:Ends) (to epoch:Int) (body:List UInt8) (hr:x.root.length≤10000) (hb:body.length≤60000) (hn:0≤got (to,epoch) x.sent 0∧got (to,epoch) x.sent 0≤1000000000) (hm:mayP (x.pkt to epoch body)=true) :
 AC Tryz.prog 73 [.bp 0 0 0,I to,I epoch,bs none body] [xE x] (fun v bs'=>v=.tu [bs none (headS (x.pkt to epoch body) ++ tagS x.root (x.pkt to epoch body)),I 0]∧bs'=[xE (x.bump to epoch)]):=by
 have hm':mayP (x.sealed to epoch body)=true:=(mayP_tag _ _).trans hm;have h1:=lnone_ac x;have h2:=seal_ac x.root (x.pkt to epoch body) hr hb;have h3:=print_acO (x.sealed to epoch body) hb (tagS_len _ _);have hk:=kinS x.sent;have hf:=fnd_at_ (to,epoch) x.sent;rw [hm'] at h3;simp only [if_true] at h3;have hw:IntKind.i64.wrap (got (to,epoch) x.sent 0 + 1)=got (to,epoch) x.sent 0 + 1:=wrap_i64 (by omega) (by omega);rw [show headS (x.sealed to epoch body)=headS (x.pkt to epoch body) from headS_tag _ _] at h3;unfold Ends.sealed at *;generalize headS (x.pkt to epoch body)=hd at *;generalize tagS x.root (x.pkt to epoch body)=T at *;unfold Ends.pkt at *;rw [eP_z] at h2;dsimp only at h3;generalize hd ++ T=y at *
 cases ha:at_ (to,epoch) x.sent with
 | none=>
  have hg:got (to,epoch) x.sent 0=0:=by unfold got;rw [ha]
  have e1:xE (x.bump to epoch)=.c tEn [B true,bs none x.root,I x.who,I x.boot,.mo (keyN x.sent ++ [kS (to,epoch)]) ((rowN x.sent ++ [[I 0]]).set x.sent.length [I 1]),.mo (keyW x.wins) (rowW x.wins)]:=by
   have e2:(rowN x.sent ++ [[I 0]]).set x.sent.length [I 1]=rowN x.sent ++ [[I 1]]:=by
    rw [List.set_append_right _ _ (by simp)];simp
   rw [e2];unfold Ends.bump puts;rw [hg,ha];simp only [xE,enE,keyN,rowN,List.map_append,List.map_cons,List.map_nil];rfl
  rw [e1]
  have hk1:∀ k∈keyN x.sent ++ [kS (to,epoch)],isKey Tryz.prog tSd [.i .i64,.i .i64] k=true:=kin _ fun k hk=>by
   rcases List.mem_append.1 hk with hk|hk
   ·obtain ⟨p,_,rfl⟩:=List.mem_map.1 hk;exact ⟨_,rfl⟩
   ·simp at hk;exact ⟨_,hk⟩
  have hf1:fnd (kS (to,epoch)) (keyN x.sent ++ [kS (to,epoch)])=some x.sent.length:=by
   rw [fnd_app (by rw [hf,ha])];simp [fnd,kEq_kS]
  have hro1:rowAt (rowN x.sent ++ [[I 0]]) none x.sent.length=some (I 0):=by
   simp [rowAt,AV.cp]
  rw [ha] at hf;rw [hg] at hw h2 h3;have hw0:IntKind.i64.wrap (0 + 1)=1:=rfl;refine AC.N Tryz.func73 Tryz.ntmps73 ?_;intro X hρ hmks;refine NX ?_;refine CP.gh gh_slot ?_;refine NX ?_
  refine CP.gh gh_slot ?_;refine NX ?_
  refine CP.gh gh_slot ?_;refine NX ?_
  repeat' (first|((first|refine wA1 ?_|(refine GA ?_;refine ⟨fun hg=>?_,fun hg=>?_⟩)|(refine GV ?_;intro c hnil;simp only [nz])|refine wA2 ?_)<;>(try simp only [hw,nq,Nat.reduceBEq,Nat.reduceAdd,Nat.reduceSub]))|refine wT6 ?_|with_reducible intro Q' hQ'|(refine GC ?_;refine ⟨fun hc=>?_,fun hc=>?_⟩)|simp only [la])
  first|refine cp_drwX fun Q' hQ'=>?_|refine cp_drawX ?_
  repeat' (first|((first|refine wA1 ?_|(refine GA ?_;refine ⟨fun hg=>?_,fun hg=>?_⟩)|(refine GV ?_;intro c hnil;simp only [nz])|refine wA2 ?_|refine wD3 ?_)<;>(try simp only [hw,nq,Nat.reduceBEq,Nat.reduceAdd,Nat.reduceSub]))|refine wT6 ?_|with_reducible intro Q' hQ'|(refine GC ?_;refine ⟨fun hc=>?_,fun hc=>?_⟩)|simp only [la])
  first|refine cp_drwX fun Q' hQ'=>?_|refine cp_drawX ?_
  repeat' (first|((first|refine wA1 ?_|(refine GA ?_;refine ⟨fun hg=>?_,fun hg=>?_⟩)|(refine GV ?_;intro c hnil;simp only [nz])|refine wA2 ?_|refine wD3 ?_)<;>(try simp only [hw,nq,Nat.reduceBEq,Nat.reduceAdd,Nat.reduceSub]))|refine wT6 ?_|with_reducible intro Q' hQ'|(refine GC ?_;refine ⟨fun hc=>?_,fun hc=>?_⟩)|simp only [la])
  refine cp_drawI (fun zs zb=>⟨setT zs.t [(50,cond (zb.getD 0 false) (.bp 0 0 0) (.tu [])),(51,cond (zb.getD 1 false) (.bp 0 0 0) (.tu [])),(52,cond (zb.getD 2 false) (.bp 0 0 4) (.tu [])),(53,cond (zb.getD 3 false) (.hd 1 2) (.tu [])),(54,cond (zb.getD 4 false) (.ag [I to,I epoch]) (.tu [])),(55,cond (zb.getD 5 false) (I 0) (.tu [])),(56,cond (zb.getD 6 false) (I (IntKind.i64.wrap (0 + 1))) (.tu [])),(57,cond (zb.getD 7 false) (.tu [I 0,.hd 5 2]) (.tu [])),(58,cond (zb.getD 8 false) (.hd 5 2) (.tu []))],((zs.b.set 1 (cond (zb.getD 9 false) (⟨2,.m (keyN x.sent ++ [kS (to,epoch)]) ((rowN x.sent ++ [[I 0]]).set x.sent.length [I (IntKind.i64.wrap (0 + 1))]) none none⟩) (cond (zb.getD 7 false) (⟨2,.m (keyN x.sent ++ [kS (to,epoch)]) (rowN x.sent ++ [[I 0]]) none (some (x.sent.length,5,2))⟩) (zs.b.getD 1 ⟨0,.x⟩)))).set 5 (cond (zb.getD 7 false) (⟨2,.x⟩) (zs.b.getD 5 ⟨0,.x⟩)))⟩) (by kernel_rfl) (by kernel_rfl) (by kernel_rfl) ?_ ?_
  rotate_left
  simp only [cond_true,cond_false,setT,List.set_cons_succ,List.set_cons_zero,List.getD_cons_succ,List.getD_cons_zero,List.set_cons_succ,List.length_cons,List.length_nil,List.replicate_succ,List.replicate_zero,Nat.reduceAdd]
  rotate_left
  ·intro b hb' hcl;obtain ⟨l0,b0,rfl,hb0⟩:=len_cons hb';obtain ⟨l1,b1,rfl,hb1⟩:=len_cons hb0;obtain ⟨l2,b2,rfl,hb2⟩:=len_cons hb1;obtain ⟨l3,b3,rfl,hb3⟩:=len_cons hb2;obtain ⟨l4,b4,rfl,hb4⟩:=len_cons hb3;obtain ⟨l5,b5,rfl,hb5⟩:=len_cons hb4;obtain ⟨l6,b6,rfl,hb6⟩:=len_cons hb5;obtain ⟨l7,b7,rfl,hb7⟩:=len_cons hb6;obtain ⟨l8,b8,rfl,hb8⟩:=len_cons hb7;obtain ⟨l9,b9,rfl,hb9⟩:=len_cons hb8;obtain rfl:=List.length_eq_zero_iff.1 hb9;clear hb' hb0 hb1 hb2 hb3 hb4 hb5 hb6 hb7 hb8 hb9
   ·simp only [closedB,depsOk,Region.binds,List.toList_toArray,List.all_cons,List.all_nil,List.getD_cons_succ,List.getD_cons_zero,Bool.not_true,Bool.not_false,Bool.true_or,Bool.false_or,Bool.and_true,Bool.true_and,Bool.or_true,Bool.and_false,Bool.or_false,Bool.false_and,Bool.and_eq_true,Bool.or_eq_true,Bool.not_eq_true'] at hcl;simp only [StepsP];refine ⟨?_,?_,?_,?_,?_,?_,?_,?_,?_,?_,trivial⟩
    all_goals
     intro h1 h2;simp [depsOk,Region.binds] at h1 h2;subst h1
     (repeat (obtain ⟨rfl,h2⟩:=h2))
     (try subst h2)
     all_goals (try (cases l7<;>(try (exfalso;grind only))))
     all_goals (try (cases l9<;>(try (exfalso;grind only))))
     all_goals clear hcl
     all_goals refine CD ?_
     all_goals (first|((with_reducible apply AP.k_any);first|(refine AP.sm false rfl ?_ ?_;focus (exact PF0))|(refine AP.el rfl ?_ (by (first|(refine ⟨?_,?_⟩;assumption;rfl)|((try clear kz);exact ⟨mapAt (by (first|omega|(simp;omega)|(simp;done)|assumption)),rfl⟩)|exact ⟨rfl,rfl⟩)) ?_;focus (exact PF0))|refine AP.LK ?_|refine AP.LN ?_|refine AP.ME ?_|refine AP.MF ?_|refine AP.MS ?_))
     all_goals (try refine NX ?_)
     all_goals (refine AP.nil ?_;exact ⟨rfl,rfl⟩)
  simp only [hw0]
  repeat' (first|((first|refine wA1 ?_|(refine GA ?_;refine ⟨fun hg=>?_,fun hg=>?_⟩)|(refine GV ?_;intro c hnil;simp only [nz])|refine wA2 ?_)<;>(try simp only [hw,nq,Nat.reduceBEq,Nat.reduceAdd,Nat.reduceSub]))|refine wT6 ?_|with_reducible intro Q' hQ'|(refine GC ?_;refine ⟨fun hc=>?_,fun hc=>?_⟩)|simp only [la])
  (exact RetQ.A [(0,0)] (by exact ⟨rfl,rfl⟩))
 | some n=>
  obtain ⟨v,hv⟩:=at_some ha;have hg:got (to,epoch) x.sent 0=v:=by unfold got;rw [ha];dsimp only;rw [hv]
  have e1:xE (x.bump to epoch)=.c tEn [B true,bs none x.root,I x.who,I x.boot,.mo (keyN x.sent) ((rowN x.sent).set n [I (v + 1)]),.mo (keyW x.wins) (rowW x.wins)]:=by
   have e2:=puts_keys ha (v + 1);have e3:(x.sent.set n ((to,epoch),v + 1)).map (fun p:Sd×Int=>[I p.2])=(rowN x.sent).set n [I (v + 1)]:=by rw [List.map_set]
   unfold Ends.bump puts;rw [hg,ha];dsimp only [xE,enE,keyN,rowN];rw [e2,e3]
  rw [e1];have hro:=rowAt_map (e:=fun p:Sd×Int=>[I p.2]) hv rfl;rw [ha] at hf;rw [hg] at hw h2 h3;refine AC.N Tryz.func73 Tryz.ntmps73 ?_;intro X hρ hmks;refine NX ?_;refine CP.gh gh_slot ?_;refine NX ?_
  refine CP.gh gh_slot ?_;refine NX ?_
  refine CP.gh gh_slot ?_;refine NX ?_
  repeat' (first|((first|refine wA1 ?_|(refine GA ?_;refine ⟨fun hg=>?_,fun hg=>?_⟩)|(refine GV ?_;intro c hnil;simp only [nz])|refine wA2 ?_)<;>(try simp only [hw,nq,Nat.reduceBEq,Nat.reduceAdd,Nat.reduceSub]))|refine wT6 ?_|with_reducible intro Q' hQ'|(refine GC ?_;refine ⟨fun hc=>?_,fun hc=>?_⟩)|simp only [la])
  first|refine cp_drwX fun Q' hQ'=>?_|refine cp_drawX ?_
  repeat' (first|((first|refine wA1 ?_|(refine GA ?_;refine ⟨fun hg=>?_,fun hg=>?_⟩)|(refine GV ?_;intro c hnil;simp only [nz])|refine wA2 ?_|refine wD3 ?_)<;>(try simp only [hw,nq,Nat.reduceBEq,Nat.reduceAdd,Nat.reduceSub]))|refine wT6 ?_|with_reducible intro Q' hQ'|(refine GC ?_;refine ⟨fun hc=>?_,fun hc=>?_⟩)|simp only [la])
  first|refine cp_drwX fun Q' hQ'=>?_|refine cp_drawX ?_
  repeat' (first|((first|refine wA1 ?_|(refine GA ?_;refine ⟨fun hg=>?_,fun hg=>?_⟩)|(refine GV ?_;intro c hnil;simp only [nz])|refine wA2 ?_|refine wD3 ?_)<;>(try simp only [hw,nq,Nat.reduceBEq,Nat.reduceAdd,Nat.reduceSub]))|refine wT6 ?_|with_reducible intro Q' hQ'|(refine GC ?_;refine ⟨fun hc=>?_,fun hc=>?_⟩)|simp only [la])
  refine cp_drawI (fun zs zb=>⟨setT zs.t [(50,cond (zb.getD 0 false) (.bp 0 0 0) (.tu [])),(51,cond (zb.getD 1 false) (.bp 0 0 0) (.tu [])),(52,cond (zb.getD 2 false) (.bp 0 0 4) (.tu [])),(53,cond (zb.getD 3 false) (.hd 1 2) (.tu [])),(54,cond (zb.getD 4 false) (.ag [I to,I epoch]) (.tu [])),(55,cond (zb.getD 5 false) (I v) (.tu [])),(56,cond (zb.getD 6 false) (I (IntKind.i64.wrap (v + 1))) (.tu [])),(57,cond (zb.getD 7 false) (.tu [I v,.hd 5 2]) (.tu [])),(58,cond (zb.getD 8 false) (.hd 5 2) (.tu []))],((zs.b.set 1 (cond (zb.getD 9 false) (⟨2,.m (keyN x.sent) ((rowN x.sent).set n [I (IntKind.i64.wrap (v + 1))]) none none⟩) (cond (zb.getD 7 false) (⟨2,.m (keyN x.sent) (rowN x.sent) none (some (n,5,2))⟩) (zs.b.getD 1 ⟨0,.x⟩)))).set 5 (cond (zb.getD 7 false) (⟨2,.x⟩) (zs.b.getD 5 ⟨0,.x⟩)))⟩) (by kernel_rfl) (by kernel_rfl) (by kernel_rfl) ?_ ?_
  rotate_left
  simp only [cond_true,cond_false,setT,List.set_cons_succ,List.set_cons_zero,List.getD_cons_succ,List.getD_cons_zero,List.set_cons_succ,List.length_cons,List.length_nil,List.replicate_succ,List.replicate_zero,Nat.reduceAdd]
  rotate_left
  ·intro b hb' hcl;obtain ⟨l0,b0,rfl,hb0⟩:=len_cons hb';obtain ⟨l1,b1,rfl,hb1⟩:=len_cons hb0;obtain ⟨l2,b2,rfl,hb2⟩:=len_cons hb1;obtain ⟨l3,b3,rfl,hb3⟩:=len_cons hb2;obtain ⟨l4,b4,rfl,hb4⟩:=len_cons hb3;obtain ⟨l5,b5,rfl,hb5⟩:=len_cons hb4;obtain ⟨l6,b6,rfl,hb6⟩:=len_cons hb5;obtain ⟨l7,b7,rfl,hb7⟩:=len_cons hb6;obtain ⟨l8,b8,rfl,hb8⟩:=len_cons hb7;obtain ⟨l9,b9,rfl,hb9⟩:=len_cons hb8;obtain rfl:=List.length_eq_zero_iff.1 hb9;clear hb' hb0 hb1 hb2 hb3 hb4 hb5 hb6 hb7 hb8 hb9
   ·simp only [closedB,depsOk,Region.binds,List.toList_toArray,List.all_cons,List.all_nil,List.getD_cons_succ,List.getD_cons_zero,Bool.not_true,Bool.not_false,Bool.true_or,Bool.false_or,Bool.and_true,Bool.true_and,Bool.or_true,Bool.and_false,Bool.or_false,Bool.false_and,Bool.and_eq_true,Bool.or_eq_true,Bool.not_eq_true'] at hcl;simp only [StepsP];refine ⟨?_,?_,?_,?_,?_,?_,?_,?_,?_,?_,trivial⟩
    all_goals
     intro h1 h2;simp [depsOk,Region.binds] at h1 h2;subst h1
     (repeat (obtain ⟨rfl,h2⟩:=h2))
     (try subst h2)
     all_goals (try (cases l7<;>(try (exfalso;grind only))))
     all_goals (try (cases l9<;>(try (exfalso;grind only))))
     all_goals clear hcl
     all_goals refine CD ?_
     all_goals (first|((with_reducible apply AP.k_any);first|(refine AP.sm false rfl ?_ ?_;focus (exact PF0))|(refine AP.el rfl ?_ (by (first|(refine ⟨?_,?_⟩;assumption;rfl)|((try clear kz);exact ⟨mapAt (by (first|omega|(simp;omega)|(simp;done)|assumption)),rfl⟩)|exact ⟨rfl,rfl⟩)) ?_;focus (exact PF0))|refine AP.LK ?_|refine AP.LN ?_|refine AP.ME ?_|refine AP.MF ?_|refine AP.MS ?_))
     all_goals (try refine NX ?_)
     all_goals (refine AP.nil ?_;exact ⟨rfl,rfl⟩)
  simp only [hw]
  repeat' (first|((first|refine wA1 ?_|(refine GA ?_;refine ⟨fun hg=>?_,fun hg=>?_⟩)|(refine GV ?_;intro c hnil;simp only [nz])|refine wA2 ?_)<;>(try simp only [hw,nq,Nat.reduceBEq,Nat.reduceAdd,Nat.reduceSub]))|refine wT6 ?_|with_reducible intro Q' hQ'|(refine GC ?_;refine ⟨fun hc=>?_,fun hc=>?_⟩)|simp only [la])
  (exact RetQ.A [(0,0)] (by exact ⟨rfl,rfl⟩))
def Ends.send (x:Ends) (to epoch:Int) (body:List UInt8):(List UInt8×Int)×Ends:=if mayP (x.pkt to epoch body)=true then ((headS (x.pkt to epoch body) ++ tagS x.root (x.pkt to epoch body),0),x.bump to epoch) else (([],2),x)
theorem send_ac (x:Ends) (to epoch:Int) (body:List UInt8) (hr:x.root.length≤10000) (hb:body.length≤60000) (hn:0≤got (to,epoch) x.sent 0∧got (to,epoch) x.sent 0≤1000000000) :
 AC Tryz.prog 73 [.bp 0 0 0,I to,I epoch,bs none body] [xE x] (fun v bs'=>v=.tu [bs none (x.send to epoch body).1.1,I (x.send to epoch body).1.2]∧bs'=[xE (x.send to epoch body).2]):=by
 cases hm:mayP (x.pkt to epoch body) with
 | true=>
  have e:x.send to epoch body=((headS (x.pkt to epoch body) ++ tagS x.root (x.pkt to epoch body),0),x.bump to epoch):=if_pos hm;rw [e];exact send_ok x to epoch body hr hb hn hm
 | false=>
  have e:x.send to epoch body=(([],2),x):=if_neg (by rw [hm];simp);rw [e];exact send_no x to epoch body hr hb hn hm
abbrev tRd:TypeId:=171
abbrev rB (st:Int×List UInt8):Bx:=.c tRd [B true,bs none st.2,I st.1]
def newR (b:List UInt8):Int×List UInt8:=if 65536 < b.length then (3,[]) else (0,b)
theorem rnew_ac (b:List UInt8) (hb:b.length≤100000000):AC Tryz.prog 45 [bs none b] [] (fun v bs'=>v=.bp 0 0 0∧bs'=[rB (newR b)]):=by
 by_cases h:65536 < b.length
 ·have e:newR b=(3,[]):=by simp [newR,h]
  rw [e];refine AC.N Tryz.func45 Tryz.ntmps45 ?_;intro X hρ hmks;refine NX ?_
  repeat' (first|((first|refine wA4 ?_)<;>(try refine NX ?_))|refine wT4 ?_|with_reducible intro Q' hQ'|(refine GC ?_;refine ⟨fun hc=>?_,fun hc=>?_⟩)|simp only [la])
  ·(exact RetQ.A [(0,1)] (by exact ⟨rfl,rfl⟩))
  ·exfalso;simp at *;omega
 ·have e:newR b=(0,b):=by simp [newR,h]
  have hcat:=(wcat_ac [b] (by simp) (by simp;omega)).ro (r2:=bs none b) (by simp [AV.ro,ro_B]);rw [e];refine AC.N Tryz.func45 Tryz.ntmps45 ?_;intro X hρ hmks;refine NX ?_
  repeat' (first|((first|refine wA6 ?_|refine aC1 hcat ?_|((with_reducible apply AP.k_any);refine AP.gh (gh_fz (b:=0) (u:=1) rfl rfl (by (repeat' (first|exact FzC.nil|apply FzC.cons|exact FzV.hd|apply FzV.ag|exact FzV.same))) (by (repeat' (first|exact FzB.nil|apply FzB.c|apply FzB.same|exact FzC.nil|apply FzC.cons|exact FzV.hd|apply FzV.ag|exact FzV.same)))) ?_;first|simp only [roE,roC,AV.ro,ro_B,ro_M,ro_E]|simp only [roE,roC,AV.ro,ro_B]))<;>(try refine NX ?_))|refine wT4 ?_|with_reducible intro Q' hQ'|(refine GC ?_;refine ⟨fun hc=>?_,fun hc=>?_⟩)|simp only [la])
  ·exfalso;simp at *;omega
  ·(exact RetQ.A [(0,2)] (by exact ⟨rfl,rfl⟩))
theorem fine_ac (st:Int×List UInt8):AC Tryz.prog 137 [.bp 0 0 0] [rB st] (fun v bs'=>v=B (st.1 == 0)∧bs'=[rB st]):=by
 refine AC.N Tryz.func137 Tryz.ntmps137 ?_;intro X hρ hmks;refine NX ?_
 repeat' (first|((first|refine wA5 ?_|(refine GA ?_;refine ⟨fun hg=>?_,fun hg=>?_⟩)|(refine GV ?_;intro c hnil;simp only [nz]))<;>(try refine NX ?_))|refine wT4 ?_|with_reducible intro Q' hQ'|(refine GC ?_;refine ⟨fun hc=>?_,fun hc=>?_⟩)|simp only [la])
 (exact RetQ.A [(0,0)] (by exact ⟨rfl,rfl⟩))
theorem rbad_ac (st:Int×List UInt8):AC Tryz.prog 138 [.bp 0 0 0] [rB st] (fun v bs'=>v=.tu []∧bs'=[rB (40,[])]):=by
 refine AC.N Tryz.func138 Tryz.ntmps138 ?_;intro X hρ hmks;refine NX ?_
 repeat' (first|((first|refine wA4 ?_)<;>(try refine NX ?_))|refine wT4 ?_|with_reducible intro Q' hQ'|(refine GC ?_;refine ⟨fun hc=>?_,fun hc=>?_⟩)|simp only [la])
 (exact RetQ.A [(0,0)] (by exact ⟨rfl,rfl⟩))
def takeS {α:Type} (z:α) (f:List UInt8→α×Bool) (n:Int) (st:Int×List UInt8):α×(Int×List UInt8):=
 if st.1≠0 then (z,st) else if n < 0∨(st.2.length:Int) < n then (z,(40,[]))
 else if (f (st.2.take n.toNat)).2=true then ((f (st.2.take n.toNat)).1,(0,st.2.drop n.toNat)) else (z,(40,[]))
theorem take1_ac (f:Nat) (g:List UInt8→UInt8×Bool) (n:Int) (st:Int×List UInt8) (hst:st.2.length≤100000000) (hf:∀ b:List UInt8,b.length=n.toNat→b.length≤st.2.length→AC Tryz.prog f [bs none b] [] (fun v bs'=>v=.tu [U (g b).1,B (g b).2]∧bs'=[])) :
 AC Tryz.prog 88 [.bp 0 0 0,I n,.fn f []] [rB st] (fun v bs'=>v=U (takeS (0:UInt8) g n st).1∧bs'=[rB (takeS (0:UInt8) g n st).2]):=by
 obtain ⟨e,b⟩:=st
 by_cases he:e=0
 ·subst he
  by_cases hn:n < 0∨(b.length:Int) < n
  ·have ht:takeS (0:UInt8) g n (0,b)=((0:UInt8),(40,[])):=by simp only [takeS,hn];simp
   rw [ht];refine AC.N Tryz.func88 Tryz.ntmps88 ?_;intro X hρ hmks;refine NX ?_
   repeat' (first|((first|refine wA5 ?_|(refine GA ?_;refine ⟨fun hg=>?_,fun hg=>?_⟩)|refine aC2 (fine_ac (0,b)) ?_|refine aC2 (rbad_ac (0,b)) ?_)<;>(try refine NX ?_))|refine wT4 ?_|with_reducible intro Q' hQ'|(refine GC ?_;refine ⟨fun hc=>?_,fun hc=>?_⟩)|simp only [la])
   all_goals first
    | (exfalso;simp at *;done)
    | (exfalso;simp at *;omega)
    | (exact RetQ.A [(0,0)] (by exact ⟨rfl,rfl⟩))
  ·have hl:(b.take n.toNat).length=n.toNat:=by simp;omega
   have hf':=hf (b.take n.toNat) hl (by rw [List.length_take];exact Nat.min_le_right _ _);have htk:List.take (b.length - n.toNat) (List.drop n.toNat b)=List.drop n.toNat b:=List.take_of_length_le (by simp);have hn0:0≤n:=by omega
   have hn1:n≤(b.length:Int):=by omega
   have hm:n≤((b.map eB).length:Int):=by simp;omega
   have ht:takeS (0:UInt8) g n (0,b)=if (g (b.take n.toNat)).2=true then ((g (b.take n.toNat)).1,(0,b.drop n.toNat)) else ((0:UInt8),(40,[])):=by simp only [takeS,hn];simp
   rw [ht]
   cases hg2:(g (b.take n.toNat)).2 with
   | true=>
    rw [hg2] at hf';simp only [if_true];refine AC.N Tryz.func88 Tryz.ntmps88 ?_;intro X hρ hmks;refine NX ?_
    repeat' (first|((first|refine wA5 ?_|(refine GA ?_;refine ⟨fun hg=>?_,fun hg=>?_⟩)|refine aC2 (fine_ac (0,b)) ?_|((with_reducible apply AP.k_any);refine ap_callX rfl rfl (fn:=f) rfl hf' (by (repeat' (first|exact PasC.nil|apply PasC.nil|apply PasC.cons|apply PasV.leaf rfl|apply PasV.nl|apply PasV.bp rfl|apply PasV.vp rfl|apply PasV.pz|exact VsM.nil|apply VsM.cons rfl|apply PasV.lend rfl rfl rfl|apply PasV.lend rfl rfl (ro_B _)|apply PasV.lend rfl rfl (ro_M _)|apply PasV.lend rfl rfl (ro_E _ _)|apply PasV.lend rfl rfl (ro_I _)|apply PasV.lend rfl rfl (by (simp only [rn,List.map_cons,List.map_nil];first|done|rfl))|apply PasV.mv rfl|apply PasV.hk rfl|apply PasV.ag|apply PasV.fn|exact PasV.fs|apply PasV.any|exact rfl))) rfl rfl ?_)|refine aC2 (rbad_ac (0,b)) ?_)<;>(try refine NX ?_))|refine wT4 ?_|with_reducible intro Q' hQ'|(refine GC ?_;refine ⟨fun hc=>?_,fun hc=>?_⟩)|simp only [la])
    all_goals first
     | (exfalso;simp at *;done)
     | (exfalso;simp at *;omega)
     | (simp only [htk]
        (exact RetQ.A [(0,0)] (by exact ⟨rfl,rfl⟩)))
   | false=>
    rw [hg2] at hf';simp only [Bool.false_eq_true,if_false];refine AC.N Tryz.func88 Tryz.ntmps88 ?_;intro X hρ hmks;refine NX ?_
    repeat' (first|((first|refine wA5 ?_|(refine GA ?_;refine ⟨fun hg=>?_,fun hg=>?_⟩)|refine aC2 (fine_ac (0,b)) ?_|((with_reducible apply AP.k_any);refine ap_callX rfl rfl (fn:=f) rfl hf' (by (repeat' (first|exact PasC.nil|apply PasC.nil|apply PasC.cons|apply PasV.leaf rfl|apply PasV.nl|apply PasV.bp rfl|apply PasV.vp rfl|apply PasV.pz|exact VsM.nil|apply VsM.cons rfl|apply PasV.lend rfl rfl rfl|apply PasV.lend rfl rfl (ro_B _)|apply PasV.lend rfl rfl (ro_M _)|apply PasV.lend rfl rfl (ro_E _ _)|apply PasV.lend rfl rfl (ro_I _)|apply PasV.lend rfl rfl (by (simp only [rn,List.map_cons,List.map_nil];first|done|rfl))|apply PasV.mv rfl|apply PasV.hk rfl|apply PasV.ag|apply PasV.fn|exact PasV.fs|apply PasV.any|exact rfl))) rfl rfl ?_)|refine aC2 (rbad_ac (0,b)) ?_)<;>(try refine NX ?_))|refine wT4 ?_|with_reducible intro Q' hQ'|(refine GC ?_;refine ⟨fun hc=>?_,fun hc=>?_⟩)|simp only [la])
    all_goals first
     | (exfalso;simp at *;done)
     | (exfalso;simp at *;omega)
     | (exact RetQ.A [(0,0)] (by exact ⟨rfl,rfl⟩))
 ·have ht:takeS (0:UInt8) g n (e,b)=((0:UInt8),(e,b)):=by simp [takeS,he]
  have hb:((e:Int) == 0)=false:=by simp [he]
  rw [ht];refine AC.N Tryz.func88 Tryz.ntmps88 ?_;intro X hρ hmks;refine NX ?_
  repeat' (first|((first|refine wA5 ?_|(refine GA ?_;refine ⟨fun hg=>?_,fun hg=>?_⟩)|refine aC2 (fine_ac (e,b)) ?_)<;>(try refine NX ?_))|refine wT4 ?_|with_reducible intro Q' hQ'|(refine GC ?_;refine ⟨fun hc=>?_,fun hc=>?_⟩)|simp only [la])
  all_goals first
   | (exfalso;simp at *;done)
   | (exfalso;simp at *;omega)
   | (exact RetQ.A [(0,0)] (by exact ⟨rfl,rfl⟩))
theorem take2_ac (f:Nat) (g:List UInt8→Bool×Bool) (n:Int) (st:Int×List UInt8) (hst:st.2.length≤100000000) (hf:∀ b:List UInt8,b.length=n.toNat→b.length≤st.2.length→AC Tryz.prog f [bs none b] [] (fun v bs'=>v=.tu [B (g b).1,B (g b).2]∧bs'=[])) :
 AC Tryz.prog 226 [.bp 0 0 0,I n,.fn f []] [rB st] (fun v bs'=>v=B (takeS false g n st).1∧bs'=[rB (takeS false g n st).2]):=by
 obtain ⟨e,b⟩:=st
 by_cases he:e=0
 ·subst he
  by_cases hn:n < 0∨(b.length:Int) < n
  ·have ht:takeS false g n (0,b)=(false,(40,[])):=by simp only [takeS,hn];simp
   rw [ht];refine AC.N Tryz.func226 Tryz.ntmps226 ?_;intro X hρ hmks;refine NX ?_
   repeat' (first|((first|refine wA5 ?_|(refine GA ?_;refine ⟨fun hg=>?_,fun hg=>?_⟩)|refine aC2 (fine_ac (0,b)) ?_|refine aC2 (rbad_ac (0,b)) ?_)<;>(try refine NX ?_))|refine wT4 ?_|with_reducible intro Q' hQ'|(refine GC ?_;refine ⟨fun hc=>?_,fun hc=>?_⟩)|simp only [la])
   all_goals first
    | (exfalso;simp at *;done)
    | (exfalso;simp at *;omega)
    | (exact RetQ.A [(0,0)] (by exact ⟨rfl,rfl⟩))
  ·have hl:(b.take n.toNat).length=n.toNat:=by simp;omega
   have hf':=hf (b.take n.toNat) hl (by rw [List.length_take];exact Nat.min_le_right _ _);have htk:List.take (b.length - n.toNat) (List.drop n.toNat b)=List.drop n.toNat b:=List.take_of_length_le (by simp);have hn0:0≤n:=by omega
   have hn1:n≤(b.length:Int):=by omega
   have hm:n≤((b.map eB).length:Int):=by simp;omega
   have ht:takeS false g n (0,b)=if (g (b.take n.toNat)).2=true then ((g (b.take n.toNat)).1,(0,b.drop n.toNat)) else (false,(40,[])):=by simp only [takeS,hn];simp
   rw [ht]
   cases hg2:(g (b.take n.toNat)).2 with
   | true=>
    rw [hg2] at hf';simp only [if_true];refine AC.N Tryz.func226 Tryz.ntmps226 ?_;intro X hρ hmks;refine NX ?_
    repeat' (first|((first|refine wA5 ?_|(refine GA ?_;refine ⟨fun hg=>?_,fun hg=>?_⟩)|refine aC2 (fine_ac (0,b)) ?_|((with_reducible apply AP.k_any);refine ap_callX rfl rfl (fn:=f) rfl hf' (by (repeat' (first|exact PasC.nil|apply PasC.nil|apply PasC.cons|apply PasV.leaf rfl|apply PasV.nl|apply PasV.bp rfl|apply PasV.vp rfl|apply PasV.pz|exact VsM.nil|apply VsM.cons rfl|apply PasV.lend rfl rfl rfl|apply PasV.lend rfl rfl (ro_B _)|apply PasV.lend rfl rfl (ro_M _)|apply PasV.lend rfl rfl (ro_E _ _)|apply PasV.lend rfl rfl (ro_I _)|apply PasV.lend rfl rfl (by (simp only [rn,List.map_cons,List.map_nil];first|done|rfl))|apply PasV.mv rfl|apply PasV.hk rfl|apply PasV.ag|apply PasV.fn|exact PasV.fs|apply PasV.any|exact rfl))) rfl rfl ?_)|refine aC2 (rbad_ac (0,b)) ?_)<;>(try refine NX ?_))|refine wT4 ?_|with_reducible intro Q' hQ'|(refine GC ?_;refine ⟨fun hc=>?_,fun hc=>?_⟩)|simp only [la])
    all_goals first
     | (exfalso;simp at *;done)
     | (exfalso;simp at *;omega)
     | (simp only [htk]
        (exact RetQ.A [(0,0)] (by exact ⟨rfl,rfl⟩)))
   | false=>
    rw [hg2] at hf';simp only [Bool.false_eq_true,if_false];refine AC.N Tryz.func226 Tryz.ntmps226 ?_;intro X hρ hmks;refine NX ?_
    repeat' (first|((first|refine wA5 ?_|(refine GA ?_;refine ⟨fun hg=>?_,fun hg=>?_⟩)|refine aC2 (fine_ac (0,b)) ?_|((with_reducible apply AP.k_any);refine ap_callX rfl rfl (fn:=f) rfl hf' (by (repeat' (first|exact PasC.nil|apply PasC.nil|apply PasC.cons|apply PasV.leaf rfl|apply PasV.nl|apply PasV.bp rfl|apply PasV.vp rfl|apply PasV.pz|exact VsM.nil|apply VsM.cons rfl|apply PasV.lend rfl rfl rfl|apply PasV.lend rfl rfl (ro_B _)|apply PasV.lend rfl rfl (ro_M _)|apply PasV.lend rfl rfl (ro_E _ _)|apply PasV.lend rfl rfl (ro_I _)|apply PasV.lend rfl rfl (by (simp only [rn,List.map_cons,List.map_nil];first|done|rfl))|apply PasV.mv rfl|apply PasV.hk rfl|apply PasV.ag|apply PasV.fn|exact PasV.fs|apply PasV.any|exact rfl))) rfl rfl ?_)|refine aC2 (rbad_ac (0,b)) ?_)<;>(try refine NX ?_))|refine wT4 ?_|with_reducible intro Q' hQ'|(refine GC ?_;refine ⟨fun hc=>?_,fun hc=>?_⟩)|simp only [la])
    all_goals first
     | (exfalso;simp at *;done)
     | (exfalso;simp at *;omega)
     | (exact RetQ.A [(0,0)] (by exact ⟨rfl,rfl⟩))
 ·have ht:takeS false g n (e,b)=(false,(e,b)):=by simp [takeS,he]
  have hb:((e:Int) == 0)=false:=by simp [he]
  rw [ht];refine AC.N Tryz.func226 Tryz.ntmps226 ?_;intro X hρ hmks;refine NX ?_
  repeat' (first|((first|refine wA5 ?_|(refine GA ?_;refine ⟨fun hg=>?_,fun hg=>?_⟩)|refine aC2 (fine_ac (e,b)) ?_)<;>(try refine NX ?_))|refine wT4 ?_|with_reducible intro Q' hQ'|(refine GC ?_;refine ⟨fun hc=>?_,fun hc=>?_⟩)|simp only [la])
  all_goals first
   | (exfalso;simp at *;done)
   | (exfalso;simp at *;omega)
   | (exact RetQ.A [(0,0)] (by exact ⟨rfl,rfl⟩))
theorem take3_ac (f:Nat) (g:List UInt8→Int×Bool) (n:Int) (st:Int×List UInt8) (hst:st.2.length≤100000000) (hf:∀ b:List UInt8,b.length=n.toNat→b.length≤st.2.length→AC Tryz.prog f [bs none b] [] (fun v bs'=>v=.tu [I (g b).1,B (g b).2]∧bs'=[])) :
 AC Tryz.prog 77 [.bp 0 0 0,I n,.fn f []] [rB st] (fun v bs'=>v=I (takeS (0:Int) g n st).1∧bs'=[rB (takeS (0:Int) g n st).2]):=by
 obtain ⟨e,b⟩:=st
 by_cases he:e=0
 ·subst he
  by_cases hn:n < 0∨(b.length:Int) < n
  ·have ht:takeS (0:Int) g n (0,b)=((0:Int),(40,[])):=by simp only [takeS,hn];simp
   rw [ht];refine AC.N Tryz.func77 Tryz.ntmps77 ?_;intro X hρ hmks;refine NX ?_
   repeat' (first|((first|refine wA5 ?_|(refine GA ?_;refine ⟨fun hg=>?_,fun hg=>?_⟩)|refine aC2 (fine_ac (0,b)) ?_|refine aC2 (rbad_ac (0,b)) ?_)<;>(try refine NX ?_))|refine wT4 ?_|with_reducible intro Q' hQ'|(refine GC ?_;refine ⟨fun hc=>?_,fun hc=>?_⟩)|simp only [la])
   all_goals first
    | (exfalso;simp at *;done)
    | (exfalso;simp at *;omega)
    | (exact RetQ.A [(0,0)] (by exact ⟨rfl,rfl⟩))
  ·have hl:(b.take n.toNat).length=n.toNat:=by simp;omega
   have hf':=hf (b.take n.toNat) hl (by rw [List.length_take];exact Nat.min_le_right _ _);have htk:List.take (b.length - n.toNat) (List.drop n.toNat b)=List.drop n.toNat b:=List.take_of_length_le (by simp);have hn0:0≤n:=by omega
   have hn1:n≤(b.length:Int):=by omega
   have hm:n≤((b.map eB).length:Int):=by simp;omega
   have ht:takeS (0:Int) g n (0,b)=if (g (b.take n.toNat)).2=true then ((g (b.take n.toNat)).1,(0,b.drop n.toNat)) else ((0:Int),(40,[])):=by simp only [takeS,hn];simp
   rw [ht]
   cases hg2:(g (b.take n.toNat)).2 with
   | true=>
    rw [hg2] at hf';simp only [if_true];refine AC.N Tryz.func77 Tryz.ntmps77 ?_;intro X hρ hmks;refine NX ?_
    repeat' (first|((first|refine wA5 ?_|(refine GA ?_;refine ⟨fun hg=>?_,fun hg=>?_⟩)|refine aC2 (fine_ac (0,b)) ?_|((with_reducible apply AP.k_any);refine ap_callX rfl rfl (fn:=f) rfl hf' (by (repeat' (first|exact PasC.nil|apply PasC.nil|apply PasC.cons|apply PasV.leaf rfl|apply PasV.nl|apply PasV.bp rfl|apply PasV.vp rfl|apply PasV.pz|exact VsM.nil|apply VsM.cons rfl|apply PasV.lend rfl rfl rfl|apply PasV.lend rfl rfl (ro_B _)|apply PasV.lend rfl rfl (ro_M _)|apply PasV.lend rfl rfl (ro_E _ _)|apply PasV.lend rfl rfl (ro_I _)|apply PasV.lend rfl rfl (by (simp only [rn,List.map_cons,List.map_nil];first|done|rfl))|apply PasV.mv rfl|apply PasV.hk rfl|apply PasV.ag|apply PasV.fn|exact PasV.fs|apply PasV.any|exact rfl))) rfl rfl ?_)|refine aC2 (rbad_ac (0,b)) ?_)<;>(try refine NX ?_))|refine wT4 ?_|with_reducible intro Q' hQ'|(refine GC ?_;refine ⟨fun hc=>?_,fun hc=>?_⟩)|simp only [la])
    all_goals first
     | (exfalso;simp at *;done)
     | (exfalso;simp at *;omega)
     | (simp only [htk]
        (exact RetQ.A [(0,0)] (by exact ⟨rfl,rfl⟩)))
   | false=>
    rw [hg2] at hf';simp only [Bool.false_eq_true,if_false];refine AC.N Tryz.func77 Tryz.ntmps77 ?_;intro X hρ hmks;refine NX ?_
    repeat' (first|((first|refine wA5 ?_|(refine GA ?_;refine ⟨fun hg=>?_,fun hg=>?_⟩)|refine aC2 (fine_ac (0,b)) ?_|((with_reducible apply AP.k_any);refine ap_callX rfl rfl (fn:=f) rfl hf' (by (repeat' (first|exact PasC.nil|apply PasC.nil|apply PasC.cons|apply PasV.leaf rfl|apply PasV.nl|apply PasV.bp rfl|apply PasV.vp rfl|apply PasV.pz|exact VsM.nil|apply VsM.cons rfl|apply PasV.lend rfl rfl rfl|apply PasV.lend rfl rfl (ro_B _)|apply PasV.lend rfl rfl (ro_M _)|apply PasV.lend rfl rfl (ro_E _ _)|apply PasV.lend rfl rfl (ro_I _)|apply PasV.lend rfl rfl (by (simp only [rn,List.map_cons,List.map_nil];first|done|rfl))|apply PasV.mv rfl|apply PasV.hk rfl|apply PasV.ag|apply PasV.fn|exact PasV.fs|apply PasV.any|exact rfl))) rfl rfl ?_)|refine aC2 (rbad_ac (0,b)) ?_)<;>(try refine NX ?_))|refine wT4 ?_|with_reducible intro Q' hQ'|(refine GC ?_;refine ⟨fun hc=>?_,fun hc=>?_⟩)|simp only [la])
    all_goals first
     | (exfalso;simp at *;done)
     | (exfalso;simp at *;omega)
     | (exact RetQ.A [(0,0)] (by exact ⟨rfl,rfl⟩))
 ·have ht:takeS (0:Int) g n (e,b)=((0:Int),(e,b)):=by simp [takeS,he]
  have hb:((e:Int) == 0)=false:=by simp [he]
  rw [ht];refine AC.N Tryz.func77 Tryz.ntmps77 ?_;intro X hρ hmks;refine NX ?_
  repeat' (first|((first|refine wA5 ?_|(refine GA ?_;refine ⟨fun hg=>?_,fun hg=>?_⟩)|refine aC2 (fine_ac (e,b)) ?_)<;>(try refine NX ?_))|refine wT4 ?_|with_reducible intro Q' hQ'|(refine GC ?_;refine ⟨fun hc=>?_,fun hc=>?_⟩)|simp only [la])
  all_goals first
   | (exfalso;simp at *;done)
   | (exfalso;simp at *;omega)
   | (exact RetQ.A [(0,0)] (by exact ⟨rfl,rfl⟩))
theorem take4_ac (f:Nat) (g:List UInt8→List UInt8×Bool) (n:Int) (st:Int×List UInt8) (hst:st.2.length≤100000000) (hf:∀ b:List UInt8,b.length=n.toNat→b.length≤st.2.length→AC Tryz.prog f [bs none b] [] (fun v bs'=>v=.tu [bs none (g b).1,B (g b).2]∧bs'=[])) :
 AC Tryz.prog 82 [.bp 0 0 0,I n,.fn f []] [rB st] (fun v bs'=>v=bs none (takeS ([]:List UInt8) g n st).1∧bs'=[rB (takeS ([]:List UInt8) g n st).2]):=by
 obtain ⟨e,b⟩:=st
 by_cases he:e=0
 ·subst he
  by_cases hn:n < 0∨(b.length:Int) < n
  ·have ht:takeS ([]:List UInt8) g n (0,b)=(([]:List UInt8),(40,[])):=by simp only [takeS,hn];simp
   rw [ht];refine AC.N Tryz.func82 Tryz.ntmps82 ?_;intro X hρ hmks;refine NX ?_
   repeat' (first|((first|refine wA5 ?_|(refine GA ?_;refine ⟨fun hg=>?_,fun hg=>?_⟩)|refine aC2 (fine_ac (0,b)) ?_|refine aC2 (rbad_ac (0,b)) ?_)<;>(try refine NX ?_))|refine wT4 ?_|with_reducible intro Q' hQ'|(refine GC ?_;refine ⟨fun hc=>?_,fun hc=>?_⟩)|simp only [la])
   all_goals first
    | (exfalso;simp at *;done)
    | (exfalso;simp at *;omega)
    | (exact RetQ.A [(0,0)] (by exact ⟨rfl,rfl⟩))
  ·have hl:(b.take n.toNat).length=n.toNat:=by simp;omega
   have hf':=hf (b.take n.toNat) hl (by rw [List.length_take];exact Nat.min_le_right _ _);have htk:List.take (b.length - n.toNat) (List.drop n.toNat b)=List.drop n.toNat b:=List.take_of_length_le (by simp);have hn0:0≤n:=by omega
   have hn1:n≤(b.length:Int):=by omega
   have hm:n≤((b.map eB).length:Int):=by simp;omega
   have ht:takeS ([]:List UInt8) g n (0,b)=if (g (b.take n.toNat)).2=true then ((g (b.take n.toNat)).1,(0,b.drop n.toNat)) else (([]:List UInt8),(40,[])):=by simp only [takeS,hn];simp
   rw [ht]
   cases hg2:(g (b.take n.toNat)).2 with
   | true=>
    rw [hg2] at hf';simp only [if_true];refine AC.N Tryz.func82 Tryz.ntmps82 ?_;intro X hρ hmks;refine NX ?_
    repeat' (first|((first|refine wA5 ?_|(refine GA ?_;refine ⟨fun hg=>?_,fun hg=>?_⟩)|refine aC2 (fine_ac (0,b)) ?_|((with_reducible apply AP.k_any);refine ap_callX rfl rfl (fn:=f) rfl hf' (by (repeat' (first|exact PasC.nil|apply PasC.nil|apply PasC.cons|apply PasV.leaf rfl|apply PasV.nl|apply PasV.bp rfl|apply PasV.vp rfl|apply PasV.pz|exact VsM.nil|apply VsM.cons rfl|apply PasV.lend rfl rfl rfl|apply PasV.lend rfl rfl (ro_B _)|apply PasV.lend rfl rfl (ro_M _)|apply PasV.lend rfl rfl (ro_E _ _)|apply PasV.lend rfl rfl (ro_I _)|apply PasV.lend rfl rfl (by (simp only [rn,List.map_cons,List.map_nil];first|done|rfl))|apply PasV.mv rfl|apply PasV.hk rfl|apply PasV.ag|apply PasV.fn|exact PasV.fs|apply PasV.any|exact rfl))) rfl rfl ?_)|refine aC2 (rbad_ac (0,b)) ?_)<;>(try refine NX ?_))|refine wT4 ?_|with_reducible intro Q' hQ'|(refine GC ?_;refine ⟨fun hc=>?_,fun hc=>?_⟩)|simp only [la])
    all_goals first
     | (exfalso;simp at *;done)
     | (exfalso;simp at *;omega)
     | (simp only [htk]
        (exact RetQ.A [(0,0)] (by exact ⟨rfl,rfl⟩)))
   | false=>
    rw [hg2] at hf';simp only [Bool.false_eq_true,if_false];refine AC.N Tryz.func82 Tryz.ntmps82 ?_;intro X hρ hmks;refine NX ?_
    repeat' (first|((first|refine wA5 ?_|(refine GA ?_;refine ⟨fun hg=>?_,fun hg=>?_⟩)|refine aC2 (fine_ac (0,b)) ?_|((with_reducible apply AP.k_any);refine ap_callX rfl rfl (fn:=f) rfl hf' (by (repeat' (first|exact PasC.nil|apply PasC.nil|apply PasC.cons|apply PasV.leaf rfl|apply PasV.nl|apply PasV.bp rfl|apply PasV.vp rfl|apply PasV.pz|exact VsM.nil|apply VsM.cons rfl|apply PasV.lend rfl rfl rfl|apply PasV.lend rfl rfl (ro_B _)|apply PasV.lend rfl rfl (ro_M _)|apply PasV.lend rfl rfl (ro_E _ _)|apply PasV.lend rfl rfl (ro_I _)|apply PasV.lend rfl rfl (by (simp only [rn,List.map_cons,List.map_nil];first|done|rfl))|apply PasV.mv rfl|apply PasV.hk rfl|apply PasV.ag|apply PasV.fn|exact PasV.fs|apply PasV.any|exact rfl))) rfl rfl ?_)|refine aC2 (rbad_ac (0,b)) ?_)<;>(try refine NX ?_))|refine wT4 ?_|with_reducible intro Q' hQ'|(refine GC ?_;refine ⟨fun hc=>?_,fun hc=>?_⟩)|simp only [la])
    all_goals first
     | (exfalso;simp at *;done)
     | (exfalso;simp at *;omega)
     | (exact RetQ.A [(0,0)] (by exact ⟨rfl,rfl⟩))
 ·have ht:takeS ([]:List UInt8) g n (e,b)=(([]:List UInt8),(e,b)):=by simp [takeS,he]
  have hb:((e:Int) == 0)=false:=by simp [he]
  rw [ht];refine AC.N Tryz.func82 Tryz.ntmps82 ?_;intro X hρ hmks;refine NX ?_
  repeat' (first|((first|refine wA5 ?_|(refine GA ?_;refine ⟨fun hg=>?_,fun hg=>?_⟩)|refine aC2 (fine_ac (e,b)) ?_)<;>(try refine NX ?_))|refine wT4 ?_|with_reducible intro Q' hQ'|(refine GC ?_;refine ⟨fun hc=>?_,fun hc=>?_⟩)|simp only [la])
  all_goals first
   | (exfalso;simp at *;done)
   | (exfalso;simp at *;omega)
   | (exact RetQ.A [(0,0)] (by exact ⟨rfl,rfl⟩))
abbrev iB (x:Int):Bx:=.c 3 [I x]
theorem take5_ac (m l:Int) (f:Nat) (g:List UInt8→Int×Bool) (n:Int) (st:Int×List UInt8) (hst:st.2.length≤100000000) (hf:∀ b:List UInt8,b.length=n.toNat→b.length≤st.2.length→AC Tryz.prog f [bs none b,.bp 0 0 0,.bp 1 0 0] [iB m,iB l] (fun v bs'=>v=.tu [I (g b).1,B (g b).2]∧bs'=[iB m,iB l])) :
 AC Tryz.prog 77 [.bp 0 0 0,I n,.fn f [.bp 1 0 0,.bp 2 0 0]] [rB st,iB m,iB l] (fun v bs'=>v=I (takeS (0:Int) g n st).1∧bs'=[rB (takeS (0:Int) g n st).2,iB m,iB l]):=by
 obtain ⟨e,b⟩:=st
 by_cases he:e=0
 ·subst he
  by_cases hn:n < 0∨(b.length:Int) < n
  ·have ht:takeS (0:Int) g n (0,b)=((0:Int),(40,[])):=by simp only [takeS,hn];simp
   rw [ht];refine AC.N Tryz.func77 Tryz.ntmps77 ?_;intro X hρ hmks;refine NX ?_
   repeat' (first|((first|refine wA5 ?_|(refine GA ?_;refine ⟨fun hg=>?_,fun hg=>?_⟩)|refine aC2 (fine_ac (0,b)) ?_|refine aC2 (rbad_ac (0,b)) ?_)<;>(try refine NX ?_))|refine wT4 ?_|with_reducible intro Q' hQ'|(refine GC ?_;refine ⟨fun hc=>?_,fun hc=>?_⟩)|simp only [la])
   all_goals first
    | (exfalso;simp at *;done)
    | (exfalso;simp at *;omega)
    | (exact RetQ.A [(0,0),(1,0),(2,0)] (by exact ⟨rfl,rfl⟩))
  ·have hl:(b.take n.toNat).length=n.toNat:=by simp;omega
   have hf':=hf (b.take n.toNat) hl (by rw [List.length_take];exact Nat.min_le_right _ _);have htk:List.take (b.length - n.toNat) (List.drop n.toNat b)=List.drop n.toNat b:=List.take_of_length_le (by simp);have hn0:0≤n:=by omega
   have hn1:n≤(b.length:Int):=by omega
   have hm:n≤((b.map eB).length:Int):=by simp;omega
   have ht:takeS (0:Int) g n (0,b)=if (g (b.take n.toNat)).2=true then ((g (b.take n.toNat)).1,(0,b.drop n.toNat)) else ((0:Int),(40,[])):=by simp only [takeS,hn];simp
   rw [ht]
   cases hg2:(g (b.take n.toNat)).2 with
   | true=>
    rw [hg2] at hf';simp only [if_true];refine AC.N Tryz.func77 Tryz.ntmps77 ?_;intro X hρ hmks;refine NX ?_
    repeat' (first|((first|refine wA5 ?_|(refine GA ?_;refine ⟨fun hg=>?_,fun hg=>?_⟩)|refine aC2 (fine_ac (0,b)) ?_|((with_reducible apply AP.k_any);refine ap_callB 0 [(1,0),(2,0)] rfl rfl (fn:=f) rfl hf' (by (repeat' (first|exact PasC.nil|apply PasC.nil|apply PasC.cons|apply PasV.leaf rfl|apply PasV.nl|apply PasV.bp rfl|apply PasV.vp rfl|apply PasV.pz|exact VsM.nil|apply VsM.cons rfl|apply PasV.lend rfl rfl rfl|apply PasV.lend rfl rfl (ro_B _)|apply PasV.lend rfl rfl (ro_M _)|apply PasV.lend rfl rfl (ro_E _ _)|apply PasV.lend rfl rfl (ro_I _)|apply PasV.lend rfl rfl (by (simp only [rn,List.map_cons,List.map_nil];first|done|rfl))|apply PasV.mv rfl|apply PasV.hk rfl|apply PasV.ag|apply PasV.fn|exact PasV.fs|apply PasV.any|exact rfl))) (by (repeat' (first|exact ClsC.nil|apply ClsC.nl|apply ClsC.leaf rfl|apply ClsC.hd rfl|apply ClsC.ob rfl|apply ClsC.mo rfl|apply ClsC.mp rfl|apply ClsC.hp rfl|exact Out.nil|apply Out.cons rfl|apply Out.r rfl|apply Out.f rfl|apply ClsC.fn|apply ClsC.fz rfl (ro_B _)|apply ClsC.fz rfl (ro_M _)|apply ClsC.fz rfl (ro_E _ _)|apply ClsC.fz rfl rfl))) rfl (by (repeat' (first|exact Bk.nil|apply Bk.cF rfl rfl|(apply Bk.cN rfl;(try refine NX ?_);apply BkN.mk rfl)|apply Bk.r rfl))) (by (repeat' (first|exact RnV.leaf rfl|exact RnV.fs|exact RnC.nil|apply RnC.cons|apply RnV.ag|apply RnV.tu|apply RnV.fn|exact RnV.bp rfl))) rfl ?_)|refine aC2 (rbad_ac (0,b)) ?_)<;>(try refine NX ?_))|refine wT4 ?_|with_reducible intro Q' hQ'|(refine GC ?_;refine ⟨fun hc=>?_,fun hc=>?_⟩)|simp only [la])
    all_goals first
     | (exfalso;simp at *;done)
     | (exfalso;simp at *;omega)
     | (simp only [htk]
        (exact RetQ.A [(0,0),(1,0),(2,0)] (by exact ⟨rfl,rfl⟩)))
   | false=>
    rw [hg2] at hf';simp only [Bool.false_eq_true,if_false];refine AC.N Tryz.func77 Tryz.ntmps77 ?_;intro X hρ hmks;refine NX ?_
    repeat' (first|((first|refine wA5 ?_|(refine GA ?_;refine ⟨fun hg=>?_,fun hg=>?_⟩)|refine aC2 (fine_ac (0,b)) ?_|((with_reducible apply AP.k_any);refine ap_callB 0 [(1,0),(2,0)] rfl rfl (fn:=f) rfl hf' (by (repeat' (first|exact PasC.nil|apply PasC.nil|apply PasC.cons|apply PasV.leaf rfl|apply PasV.nl|apply PasV.bp rfl|apply PasV.vp rfl|apply PasV.pz|exact VsM.nil|apply VsM.cons rfl|apply PasV.lend rfl rfl rfl|apply PasV.lend rfl rfl (ro_B _)|apply PasV.lend rfl rfl (ro_M _)|apply PasV.lend rfl rfl (ro_E _ _)|apply PasV.lend rfl rfl (ro_I _)|apply PasV.lend rfl rfl (by (simp only [rn,List.map_cons,List.map_nil];first|done|rfl))|apply PasV.mv rfl|apply PasV.hk rfl|apply PasV.ag|apply PasV.fn|exact PasV.fs|apply PasV.any|exact rfl))) (by (repeat' (first|exact ClsC.nil|apply ClsC.nl|apply ClsC.leaf rfl|apply ClsC.hd rfl|apply ClsC.ob rfl|apply ClsC.mo rfl|apply ClsC.mp rfl|apply ClsC.hp rfl|exact Out.nil|apply Out.cons rfl|apply Out.r rfl|apply Out.f rfl|apply ClsC.fn|apply ClsC.fz rfl (ro_B _)|apply ClsC.fz rfl (ro_M _)|apply ClsC.fz rfl (ro_E _ _)|apply ClsC.fz rfl rfl))) rfl (by (repeat' (first|exact Bk.nil|apply Bk.cF rfl rfl|(apply Bk.cN rfl;(try refine NX ?_);apply BkN.mk rfl)|apply Bk.r rfl))) (by (repeat' (first|exact RnV.leaf rfl|exact RnV.fs|exact RnC.nil|apply RnC.cons|apply RnV.ag|apply RnV.tu|apply RnV.fn|exact RnV.bp rfl))) rfl ?_)|refine aC2 (rbad_ac (0,b)) ?_)<;>(try refine NX ?_))|refine wT4 ?_|with_reducible intro Q' hQ'|(refine GC ?_;refine ⟨fun hc=>?_,fun hc=>?_⟩)|simp only [la])
    all_goals first
     | (exfalso;simp at *;done)
     | (exfalso;simp at *;omega)
     | (exact RetQ.A [(0,0),(1,0),(2,0)] (by exact ⟨rfl,rfl⟩))
 ·have ht:takeS (0:Int) g n (e,b)=((0:Int),(e,b)):=by simp [takeS,he]
  have hb:((e:Int) == 0)=false:=by simp [he]
  rw [ht];refine AC.N Tryz.func77 Tryz.ntmps77 ?_;intro X hρ hmks;refine NX ?_
  repeat' (first|((first|refine wA5 ?_|(refine GA ?_;refine ⟨fun hg=>?_,fun hg=>?_⟩)|refine aC2 (fine_ac (e,b)) ?_)<;>(try refine NX ?_))|refine wT4 ?_|with_reducible intro Q' hQ'|(refine GC ?_;refine ⟨fun hc=>?_,fun hc=>?_⟩)|simp only [la])
  all_goals first
   | (exfalso;simp at *;done)
   | (exfalso;simp at *;omega)
   | (exact RetQ.A [(0,0),(1,0),(2,0)] (by exact ⟨rfl,rfl⟩))
theorem load64_ac (b:List UInt8) (hb:b.length≤100000000):AC Tryz.prog 79 [bs none b,I 0] [] (fun v bs'=>v=.tu [.sc (.int .u64 ((loadS b 0 8).1:Int)),B (loadS b 0 8).2]∧bs'=[]):=by
 have h:=load_ac b 0 8 (by omega) hb (by omega) (by omega);refine AC.N Tryz.func79 Tryz.ntmps79 ?_;intro X hρ hmks;refine NX ?_
 repeat' (first|((first|refine wA4 ?_|refine aC1 h ?_)<;>(try refine NX ?_))|refine wT4 ?_|with_reducible intro Q' hQ'|(refine GC ?_;refine ⟨fun hc=>?_,fun hc=>?_⟩)|simp only [la])
 (refine RetQ.B [] ?_;(try dsimp only [resV,List.getD_cons_succ,List.getD_cons_zero]);(exact ⟨rfl,rfl⟩))
theorem ldw32_ac (b:List UInt8) (hb:b.length≤100000000):AC Tryz.prog 81 [bs none b,I 0] [] (fun v bs'=>v=.tu [.sc (.int .u32 ((loadS b 0 4).1:Int)),B (loadS b 0 4).2]∧bs'=[]):=by
 have h:=load_ac b 0 4 (by omega) hb (by omega) (by omega)
 have hw:IntKind.u32.wrap ((loadS b 0 4).1:Int)=((loadS b 0 4).1:Int):=by
  have h1:(loadS b 0 4).1 < 4294967296:=by
   unfold loadS;split
   ·simp
   ·have:=beN_lt ((b.drop (0:Int).toNat).take 4);have h2:256 ^ ((b.drop (0:Int).toNat).take 4).length≤256 ^ 4:=Nat.pow_le_pow_right (by omega) (by simp;omega);simp at this h2 ⊢;omega
  simp [IntKind.wrap,IntKind.bits,IntKind.signed];omega
 refine AC.N Tryz.func81 Tryz.ntmps81 ?_;intro X hρ hmks;refine NX ?_
 repeat' (first|((first|refine wA4 ?_|refine aC1 h ?_)<;>(try refine NX ?_))|refine wT4 ?_|with_reducible intro Q' hQ'|(refine GC ?_;refine ⟨fun hc=>?_,fun hc=>?_⟩)|simp only [la])
 simp only [hw]
 (refine RetQ.B [] ?_;(try dsimp only [resV,List.getD_cons_succ,List.getD_cons_zero]);(exact ⟨rfl,rfl⟩))
theorem loadS_all {b:List UInt8} {n:Nat} (h:b.length=n):loadS b 0 n=(beN b,true):=by
 have h1:¬ ((0:Int) < 0∨(b.length:Int) - n < 0):=by omega
 simp only [loadS,if_neg h1];simp [←h]
def toI (n:Nat):Int:=IntKind.i64.wrap n
def byteG (b:List UInt8):UInt8×Bool:=(b.headD 0,true)
def intG (b:List UInt8):Int×Bool:=(toI (beN b),true)
def flagG (b:List UInt8):Bool×Bool:=(b.headD 0 == 1,decide (b.headD 0≤1))
def lenG (b:List UInt8):Int×Bool:=(beN b,decide (beN b≤65536))
def bytesG (b:List UInt8):List UInt8×Bool:=(b,true)
def countG (m l:Int) (b:List UInt8):Int×Bool:=(toI (beN b),decide (0≤toI (beN b)) && decide (toI (beN b)≤m) && decide (toI (beN b)≤l))
theorem len1 {b:List UInt8} (h:b.length=1):∃ x,b=[x]:=by
 match b,h with
 | [x],_=>exact ⟨x,rfl⟩
theorem rbyte1_ac (b:List UInt8) (h:b.length=1):AC Tryz.prog 89 [bs none b] [] (fun v bs'=>v=.tu [U (byteG b).1,B (byteG b).2]∧bs'=[]):=by
 obtain ⟨x,rfl⟩:=len1 h;refine AC.N Tryz.func89 Tryz.ntmps89 ?_;intro X hρ hmks;refine NX ?_
 repeat' (first|((first|refine wA4 ?_|((with_reducible apply AP.k_any);first|refine AP.E ?_))<;>(try refine NX ?_))|refine wT4 ?_|with_reducible intro Q' hQ'|(refine GC ?_;refine ⟨fun hc=>?_,fun hc=>?_⟩)|simp only [la])
 (refine RetQ.B [] ?_;(try dsimp only [resV,List.getD_cons_succ,List.getD_cons_zero]);(exact ⟨rfl,rfl⟩))
theorem rint1_ac (b:List UInt8) (h:b.length=8):AC Tryz.prog 78 [bs none b] [] (fun v bs'=>v=.tu [I (intG b).1,B (intG b).2]∧bs'=[]):=by
 have hl:=load64_ac b (by omega);rw [loadS_all h] at hl;refine AC.N Tryz.func78 Tryz.ntmps78 ?_;intro X hρ hmks;refine NX ?_
 repeat' (first|((first|refine wA4 ?_|refine aC1 hl ?_)<;>(try refine NX ?_))|refine wT4 ?_|with_reducible intro Q' hQ'|(refine GC ?_;refine ⟨fun hc=>?_,fun hc=>?_⟩)|simp only [la])
 (refine RetQ.B [] ?_;(try dsimp only [resV,List.getD_cons_succ,List.getD_cons_zero]);(exact ⟨rfl,rfl⟩))
theorem rflag1_ac (b:List UInt8) (h:b.length=1):AC Tryz.prog 227 [bs none b] [] (fun v bs'=>v=.tu [B (flagG b).1,B (flagG b).2]∧bs'=[]):=by
 obtain ⟨x,rfl⟩:=len1 h;refine AC.N Tryz.func227 Tryz.ntmps227 ?_;intro X hρ hmks;refine NX ?_
 repeat' (first|((first|((with_reducible apply AP.k_any);first|refine AP.S ?_|refine AP.E ?_|(refine AP.V (fun c hnil=>?_);simp only [nz]))|((with_reducible apply AQ.k_any);first|refine AQ.S ?_|refine AQ.E ?_))<;>(try refine NX ?_))|(refine AP.N0 ?_;try clear hQ' Q')|((with_reducible apply AQ.k_nil);first|(refine AQ.nil (hQ' _ ?_);clear hQ' Q')|refine AQ.nil ?_)|((with_reducible apply CP.k_drw);refine cp_drw (by kernel_rfl) (by kernel_rfl) fun Q' hQ'=>?_)|((with_reducible apply CP.k_drw1);refine cp_draw (by kernel_rfl) (by kernel_rfl) ?_)|((with_reducible apply CP.k_reg);refine cp_regG fun Q' hQ'=>?_)|refine CP.W ?_|refine cp_cond rfl (fun hc=>?_) (fun hc=>?_)|(simp only [List.append_eq,List.cons_append,List.nil_append]))
 (refine RetQ.B [] ?_;(try dsimp only [resV,List.getD_cons_succ,List.getD_cons_zero]);((refine ⟨?_,rfl⟩;simp [flagG,UInt8.le_iff_toNat_le,beq_iff_eq];try (rw [Bool.eq_iff_iff];simp [←UInt8.toNat_inj];try omega))))
theorem rlen1_ac (b:List UInt8) (h:b.length=4):AC Tryz.prog 80 [bs none b] [] (fun v bs'=>v=.tu [I (lenG b).1,B (lenG b).2]∧bs'=[]):=by
 have hl:=ldw32_ac b (by omega);rw [loadS_all h] at hl;have hb:=beN_lt b;rw [h] at hb;have hw:IntKind.i64.wrap (beN b:Int)=(beN b:Int):=wrap_i64 (by omega) (by omega);refine AC.N Tryz.func80 Tryz.ntmps80 ?_;intro X hρ hmks;refine NX ?_
 repeat' (first|((first|refine wA4 ?_|refine aC1 hl ?_)<;>(try refine NX ?_))|refine wT4 ?_|with_reducible intro Q' hQ'|(refine GC ?_;refine ⟨fun hc=>?_,fun hc=>?_⟩)|simp only [la])
 simp only [hw]
 (refine RetQ.B [] ?_;(try dsimp only [resV,List.getD_cons_succ,List.getD_cons_zero]);((refine ⟨?_,rfl⟩;simp [lenG];try omega)))
theorem rbytes1_ac (b:List UInt8) (h:b.length≤100000000):AC Tryz.prog 83 [bs none b] [] (fun v bs'=>v=.tu [bs none (bytesG b).1,B (bytesG b).2]∧bs'=[]):=by
 have hcat:=(wcat_ac [b] (by simp) (by simp;omega)).ro (r2:=bs none b) (by simp [AV.ro,ro_B]);refine AC.N Tryz.func83 Tryz.ntmps83 ?_;intro X hρ hmks;refine NX ?_
 repeat' (first|((first|refine wA6 ?_|refine aC1 hcat ?_|((with_reducible apply AP.k_any);refine AP.gh (gh_fz (b:=0) (u:=1) rfl rfl (by (repeat' (first|exact FzC.nil|apply FzC.cons|exact FzV.hd|apply FzV.ag|exact FzV.same))) (by (repeat' (first|exact FzB.nil|apply FzB.c|apply FzB.same|exact FzC.nil|apply FzC.cons|exact FzV.hd|apply FzV.ag|exact FzV.same)))) ?_;first|simp only [roE,roC,AV.ro,ro_B,ro_M,ro_E]|simp only [roE,roC,AV.ro,ro_B]))<;>(try refine NX ?_))|refine wT4 ?_|with_reducible intro Q' hQ'|(refine GC ?_;refine ⟨fun hc=>?_,fun hc=>?_⟩)|simp only [la])
 (refine RetQ.B [] ?_;(try dsimp only [resV,List.getD_cons_succ,List.getD_cons_zero]);(exact ⟨rfl,rfl⟩))
theorem rcount1_ac (m l:Int) (b:List UInt8) (h:b.length=8):AC Tryz.prog 225 [bs none b,.bp 0 0 0,.bp 1 0 0] [iB m,iB l] (fun v bs'=>v=.tu [I (countG m l b).1,B (countG m l b).2]∧bs'=[iB m,iB l]):=by
 have hl:=load64_ac b (by omega);rw [loadS_all h] at hl;refine AC.N Tryz.func225 Tryz.ntmps225 ?_;intro X hρ hmks;refine NX ?_
 repeat' (first|((first|((with_reducible apply AP.k_any);first|refine AP.S ?_|(refine AP.Y ?_;dsimp only)|refine AP.G (fun hg=>?_) (fun hg=>?_))|((with_reducible apply AP.k_any);refine AP.C (hl) ?_)|((with_reducible apply AQ.k_any);first|refine AQ.S ?_|(refine AQ.Y ?_;dsimp only)|refine AQ.G (fun hg=>?_) (fun hg=>?_)))<;>(try refine NX ?_))|(refine AP.N0 ?_;try clear hQ' Q')|((with_reducible apply AQ.k_nil);first|(refine AQ.nil (hQ' _ ?_);clear hQ' Q')|refine AQ.nil ?_)|((with_reducible apply CP.k_drw);refine cp_drw (by kernel_rfl) (by kernel_rfl) fun Q' hQ'=>?_)|((with_reducible apply CP.k_drw1);refine cp_draw (by kernel_rfl) (by kernel_rfl) ?_)|((with_reducible apply CP.k_reg);refine cp_regG fun Q' hQ'=>?_)|refine CP.W ?_|refine cp_cond rfl (fun hc=>?_) (fun hc=>?_)|(simp only [List.append_eq,List.cons_append,List.nil_append]))
 all_goals (refine RetQ.B [(0,0),(1,0)] ?_;(try dsimp only [resV,List.getD_cons_succ,List.getD_cons_zero]);((refine ⟨?_,rfl⟩;simp at *;simp [countG,toI, *];try (first|rfl|(intro h1;exfalso;have h2:=of_decide_eq_true h1;omega)))))
theorem takeS_len {α:Type} {z:α} {f:List UInt8→α×Bool} {n:Int} {st:Int×List UInt8} {k:Nat} (h:st.2.length≤k):(takeS z f n st).2.2.length≤k:=by
 unfold takeS;split
 ·exact h
 ·split
  ·simp
  ·split
   ·simp;omega
   ·simp
def byteR (st:Int×List UInt8):UInt8×(Int×List UInt8):=takeS 0 byteG 1 st
def intR (st:Int×List UInt8):Int×(Int×List UInt8):=takeS 0 intG 8 st
def flagR (st:Int×List UInt8):Bool×(Int×List UInt8):=takeS false flagG 1 st
def lenR (st:Int×List UInt8):Int×(Int×List UInt8):=takeS 0 lenG 4 st
def bytesR (st:Int×List UInt8):List UInt8×(Int×List UInt8):=takeS [] bytesG (lenR st).1 (lenR st).2
def leftR (st:Int×List UInt8):Int:=if st.1=0 then st.2.length else 0
def countR (m:Int) (st:Int×List UInt8):Int×(Int×List UInt8):=takeS 0 (countG m (leftR st - 8)) 8 st
def endR (st:Int×List UInt8):Int:=if st.1=0 then (if st.2=[] then 0 else 40) else st.1
theorem rbyte_ac (st:Int×List UInt8) (hst:st.2.length≤100000000):AC Tryz.prog 51 [.bp 0 0 0] [rB st] (fun v bs'=>v=U (byteR st).1∧bs'=[rB (byteR st).2]):=by
 have h:=take1_ac 89 byteG 1 st hst (fun b hb _=>rbyte1_ac b hb);refine AC.N Tryz.func51 Tryz.ntmps51 ?_;intro X hρ hmks;refine NX ?_
 repeat' (first|((first|refine wA4 ?_|refine aC2 h ?_)<;>(try refine NX ?_))|refine wT4 ?_|with_reducible intro Q' hQ'|(refine GC ?_;refine ⟨fun hc=>?_,fun hc=>?_⟩)|simp only [la])
 (exact RetQ.A [(0,0)] (by exact ⟨rfl,rfl⟩))
theorem rint_ac (st:Int×List UInt8) (hst:st.2.length≤100000000):AC Tryz.prog 46 [.bp 0 0 0] [rB st] (fun v bs'=>v=I (intR st).1∧bs'=[rB (intR st).2]):=by
 have h:=take3_ac 78 intG 8 st hst (fun b hb _=>rint1_ac b hb);refine AC.N Tryz.func46 Tryz.ntmps46 ?_;intro X hρ hmks;refine NX ?_
 repeat' (first|((first|refine wA4 ?_|refine aC2 h ?_)<;>(try refine NX ?_))|refine wT4 ?_|with_reducible intro Q' hQ'|(refine GC ?_;refine ⟨fun hc=>?_,fun hc=>?_⟩)|simp only [la])
 (exact RetQ.A [(0,0)] (by exact ⟨rfl,rfl⟩))
theorem rflag_ac (st:Int×List UInt8) (hst:st.2.length≤100000000):AC Tryz.prog 207 [.bp 0 0 0] [rB st] (fun v bs'=>v=B (flagR st).1∧bs'=[rB (flagR st).2]):=by
 have h:=take2_ac 227 flagG 1 st hst (fun b hb _=>rflag1_ac b hb);refine AC.N Tryz.func207 Tryz.ntmps207 ?_;intro X hρ hmks;refine NX ?_
 repeat' (first|((first|refine wA4 ?_|refine aC2 h ?_)<;>(try refine NX ?_))|refine wT4 ?_|with_reducible intro Q' hQ'|(refine GC ?_;refine ⟨fun hc=>?_,fun hc=>?_⟩)|simp only [la])
 (exact RetQ.A [(0,0)] (by exact ⟨rfl,rfl⟩))
theorem rbytes_ac (st:Int×List UInt8) (hst:st.2.length≤100000000):AC Tryz.prog 47 [.bp 0 0 0] [rB st] (fun v bs'=>v=bs none (bytesR st).1∧bs'=[rB (bytesR st).2]):=by
 have h:=take3_ac 80 lenG 4 st hst (fun b hb _=>rlen1_ac b hb);have h2:=take4_ac 83 bytesG (lenR st).1 (lenR st).2 (takeS_len hst) (fun b _ hb=>rbytes1_ac b (Nat.le_trans hb (takeS_len hst)));refine AC.N Tryz.func47 Tryz.ntmps47 ?_;intro X hρ hmks;refine NX ?_
 repeat' (first|((first|refine wA4 ?_|refine aC2 h ?_|refine aC2 h2 ?_)<;>(try refine NX ?_))|refine wT4 ?_|with_reducible intro Q' hQ'|(refine GC ?_;refine ⟨fun hc=>?_,fun hc=>?_⟩)|simp only [la])
 (exact RetQ.A [(0,0)] (by exact ⟨rfl,rfl⟩))
theorem rleft_ac (st:Int×List UInt8):AC Tryz.prog 224 [.bp 0 0 0] [rB st] (fun v bs'=>v=I (leftR st)∧bs'=[rB st]):=by
 refine AC.N Tryz.func224 Tryz.ntmps224 ?_;intro X hρ hmks;refine NX ?_
 repeat' (first|((first|refine wA4 ?_|refine aC2 (fine_ac st) ?_)<;>(try refine NX ?_))|refine wT4 ?_|with_reducible intro Q' hQ'|(refine GC ?_;refine ⟨fun hc=>?_,fun hc=>?_⟩)|simp only [la])
 ·(refine RetQ.B [(0,0)] ?_;(try dsimp only [resV,List.getD_cons_succ,List.getD_cons_zero]);((refine ⟨?_,rfl⟩;simp at *;simp [leftR, *])))
 ·(refine RetQ.B [(0,0)] ?_;(try dsimp only [resV,List.getD_cons_succ,List.getD_cons_zero]);((refine ⟨?_,rfl⟩;simp at *;simp [leftR, *])))
theorem rcount_ac (m:Int) (st:Int×List UInt8) (hst:st.2.length≤100000000):AC Tryz.prog 201 [.bp 0 0 0,I m] [rB st] (fun v bs'=>v=I (countR m st).1∧bs'=[rB (countR m st).2]):=by
 have h:=take5_ac m (leftR st - 8) 225 (countG m (leftR st - 8)) 8 st hst (fun b hb _=>rcount1_ac m _ b hb)
 have hw:IntKind.i64.wrap (leftR st - 8)=leftR st - 8:=by
  have:0≤leftR st∧leftR st≤100000000:=by unfold leftR;split<;>omega
  exact wrap_i64 (by omega) (by omega)
 refine AC.N Tryz.func201 Tryz.ntmps201 ?_;intro X hρ hmks;refine NX ?_
 repeat' (first|((first|refine wA4 ?_|refine aC2 (rleft_ac st) ?_|((with_reducible apply AP.k_any);simp only [hw];refine ap_callB 0 [(0,0),(1,1),(2,1)] rfl rfl (fn:=77) rfl (h) (by (repeat' (first|exact PasC.nil|apply PasC.nil|apply PasC.cons|apply PasV.leaf rfl|apply PasV.nl|apply PasV.bp rfl|apply PasV.vp rfl|apply PasV.pz|exact VsM.nil|apply VsM.cons rfl|apply PasV.lend rfl rfl rfl|apply PasV.lend rfl rfl (ro_B _)|apply PasV.lend rfl rfl (ro_M _)|apply PasV.lend rfl rfl (ro_E _ _)|apply PasV.lend rfl rfl (ro_I _)|apply PasV.lend rfl rfl (by (simp only [rn,List.map_cons,List.map_nil];first|done|rfl))|apply PasV.mv rfl|apply PasV.hk rfl|apply PasV.ag|apply PasV.fn|exact PasV.fs|apply PasV.any|exact rfl))) (by (repeat' (first|exact ClsC.nil|apply ClsC.nl|apply ClsC.leaf rfl|apply ClsC.hd rfl|apply ClsC.ob rfl|apply ClsC.mo rfl|apply ClsC.mp rfl|apply ClsC.hp rfl|exact Out.nil|apply Out.cons rfl|apply Out.r rfl|apply Out.f rfl|apply ClsC.fn|apply ClsC.fz rfl (ro_B _)|apply ClsC.fz rfl (ro_M _)|apply ClsC.fz rfl (ro_E _ _)|apply ClsC.fz rfl rfl))) rfl (by (repeat' (first|exact Bk.nil|apply Bk.cF rfl rfl|(apply Bk.cN rfl;(try refine NX ?_);apply BkN.mk rfl)|apply Bk.r rfl))) (by (repeat' (first|exact RnV.leaf rfl|exact RnV.fs|exact RnC.nil|apply RnC.cons|apply RnV.ag|apply RnV.tu|apply RnV.fn|exact RnV.bp rfl))) rfl ?_))<;>(try refine NX ?_))|refine wT4 ?_|with_reducible intro Q' hQ'|(refine GC ?_;refine ⟨fun hc=>?_,fun hc=>?_⟩)|simp only [la])
 (exact RetQ.A [(0,0)] (by exact ⟨rfl,rfl⟩))
theorem rerr_ac (st:Int×List UInt8):AC Tryz.prog 86 [.bp 0 0 0] [rB st] (fun v bs'=>v=I st.1∧bs'=[rB st]):=by
 refine AC.N Tryz.func86 Tryz.ntmps86 ?_;intro X hρ hmks;refine NX ?_
 repeat' (first|((first|refine wA5 ?_|(refine GA ?_;refine ⟨fun hg=>?_,fun hg=>?_⟩)|(refine GV ?_;intro c hnil;simp only [nz]))<;>(try refine NX ?_))|refine wT4 ?_|with_reducible intro Q' hQ'|(refine GC ?_;refine ⟨fun hc=>?_,fun hc=>?_⟩)|simp only [la])
 (exact RetQ.A [(0,0)] (by exact ⟨rfl,rfl⟩))
theorem rend_ac (st:Int×List UInt8):AC Tryz.prog 49 [.bp 0 0 0] [rB st] (fun v bs'=>v=I (endR st)∧bs'=[rB st]):=by
 refine AC.N Tryz.func49 Tryz.ntmps49 ?_;intro X hρ hmks;refine NX ?_
 repeat' (first|((first|refine wA4 ?_|(refine GV ?_;intro c hnil;simp only [nz])|refine aC2 (rerr_ac st) ?_)<;>(try refine NX ?_))|refine wT4 ?_|with_reducible intro Q' hQ'|(refine GC ?_;refine ⟨fun hc=>?_,fun hc=>?_⟩)|simp only [la])
 all_goals (refine RetQ.B [(0,0)] ?_;(try dsimp only [resV,List.getD_cons_succ,List.getD_cons_zero]);((refine ⟨?_,rfl⟩;simp at *;simp [endR, *];try (intro h;simp [h] at *))))
abbrev z32:List UInt8:=List.replicate 32 0
def tagG (b:List UInt8):List UInt8×Bool:=(b,true)
def tagR (st:Int×List UInt8):List UInt8×(Int×List UInt8):=takeS z32 tagG 32 st
theorem wA12 {G G':Prop} (K:G') (h:G'→G:=by (intro kz;(with_reducible apply AP.k_any);first|exact AP.S kz|exact AP.A kz|exact AP.AB 0 kz|exact AP.AB 1 kz|exact AP.AL kz|exact AP.SA kz)):G:=h K
theorem rtag1_ac (b:List UInt8) (h:b.length=32):AC Tryz.prog 85 [bs none b] [] (fun v bs'=>v=.tu [tg (tagG b).1,B (tagG b).2]∧bs'=[]):=by
 dsimp only [tagG];rw [ex32 h];refine AC.N Tryz.func85 Tryz.ntmps85 ?_;intro X hρ hmks;refine NX ?_
 repeat' (first|((first|refine wA12 ?_|((with_reducible apply AP.k_any);first|refine AP.E ?_|refine AP.T ?_))<;>(try refine NX ?_))|refine wT4 ?_|with_reducible intro Q' hQ'|(refine GC ?_;refine ⟨fun hc=>?_,fun hc=>?_⟩)|simp only [la])
 (exact RetQ.A [] (by exact ⟨rfl,rfl⟩))
theorem take6_ac (f:Nat) (g:List UInt8→List UInt8×Bool) (n:Int) (st:Int×List UInt8) (hst:st.2.length≤100000000) (hf:∀ b:List UInt8,b.length=n.toNat→b.length≤st.2.length→AC Tryz.prog f [bs none b] [] (fun v bs'=>v=.tu [tg (g b).1,B (g b).2]∧bs'=[])) :
 AC Tryz.prog 84 [.bp 0 0 0,I n,.fn f []] [rB st] (fun v bs'=>v=tg (takeS z32 g n st).1∧bs'=[rB (takeS z32 g n st).2]):=by
 obtain ⟨e,b⟩:=st
 by_cases he:e=0
 ·subst he
  by_cases hn:n < 0∨(b.length:Int) < n
  ·have ht:takeS z32 g n (0,b)=(z32,(40,[])):=by simp only [takeS,hn];simp
   rw [ht];refine AC.N Tryz.func84 Tryz.ntmps84 ?_;intro X hρ hmks;refine NX ?_
   repeat' (first|((first|refine wA5 ?_|(refine GA ?_;refine ⟨fun hg=>?_,fun hg=>?_⟩)|refine aC2 (fine_ac (0,b)) ?_|refine aC2 (rbad_ac (0,b)) ?_)<;>(try refine NX ?_))|refine wT4 ?_|with_reducible intro Q' hQ'|(refine GC ?_;refine ⟨fun hc=>?_,fun hc=>?_⟩)|simp only [la])
   all_goals first
    | (exfalso;simp at *;done)
    | (exfalso;simp at *;omega)
    | (exact RetQ.A [(0,0)] (by exact ⟨rfl,rfl⟩))
  ·have hl:(b.take n.toNat).length=n.toNat:=by simp;omega
   have hf':=hf (b.take n.toNat) hl (by rw [List.length_take];exact Nat.min_le_right _ _);have htk:List.take (b.length - n.toNat) (List.drop n.toNat b)=List.drop n.toNat b:=List.take_of_length_le (by simp);have hn0:0≤n:=by omega
   have hn1:n≤(b.length:Int):=by omega
   have hm:n≤((b.map eB).length:Int):=by simp;omega
   have ht:takeS z32 g n (0,b)=if (g (b.take n.toNat)).2=true then ((g (b.take n.toNat)).1,(0,b.drop n.toNat)) else (z32,(40,[])):=by simp only [takeS,hn];simp
   rw [ht]
   cases hg2:(g (b.take n.toNat)).2 with
   | true=>
    rw [hg2] at hf';simp only [if_true];refine AC.N Tryz.func84 Tryz.ntmps84 ?_;intro X hρ hmks;refine NX ?_
    repeat' (first|((first|refine wA5 ?_|(refine GA ?_;refine ⟨fun hg=>?_,fun hg=>?_⟩)|refine aC2 (fine_ac (0,b)) ?_|refine aC1 hf' ?_|refine aC2 (rbad_ac (0,b)) ?_)<;>(try refine NX ?_))|refine wT4 ?_|with_reducible intro Q' hQ'|(refine GC ?_;refine ⟨fun hc=>?_,fun hc=>?_⟩)|simp only [la])
    all_goals first
     | (exfalso;simp at *;done)
     | (exfalso;simp at *;omega)
     | (simp only [htk]
        (exact RetQ.A [(0,0)] (by exact ⟨rfl,rfl⟩)))
   | false=>
    rw [hg2] at hf';simp only [Bool.false_eq_true,if_false];refine AC.N Tryz.func84 Tryz.ntmps84 ?_;intro X hρ hmks;refine NX ?_
    repeat' (first|((first|refine wA5 ?_|(refine GA ?_;refine ⟨fun hg=>?_,fun hg=>?_⟩)|refine aC2 (fine_ac (0,b)) ?_|refine aC1 hf' ?_|refine aC2 (rbad_ac (0,b)) ?_)<;>(try refine NX ?_))|refine wT4 ?_|with_reducible intro Q' hQ'|(refine GC ?_;refine ⟨fun hc=>?_,fun hc=>?_⟩)|simp only [la])
    all_goals first
     | (exfalso;simp at *;done)
     | (exfalso;simp at *;omega)
     | (exact RetQ.A [(0,0)] (by exact ⟨rfl,rfl⟩))
 ·have ht:takeS z32 g n (e,b)=(z32,(e,b)):=by simp [takeS,he]
  have hb:((e:Int) == 0)=false:=by simp [he]
  rw [ht];refine AC.N Tryz.func84 Tryz.ntmps84 ?_;intro X hρ hmks;refine NX ?_
  repeat' (first|((first|refine wA5 ?_|(refine GA ?_;refine ⟨fun hg=>?_,fun hg=>?_⟩)|refine aC2 (fine_ac (e,b)) ?_)<;>(try refine NX ?_))|refine wT4 ?_|with_reducible intro Q' hQ'|(refine GC ?_;refine ⟨fun hc=>?_,fun hc=>?_⟩)|simp only [la])
  all_goals first
   | (exfalso;simp at *;done)
   | (exfalso;simp at *;omega)
   | (exact RetQ.A [(0,0)] (by exact ⟨rfl,rfl⟩))
theorem wA13 {G G':Prop} (K:G') (h:G'→G:=by (intro kz;(with_reducible apply AP.k_any);first|exact AP.S kz|exact AP.A kz|exact AP.AB 0 kz|exact AP.AB 1 kz|exact AP.AL kz)):G:=h K
theorem rtag_ac (st:Int×List UInt8) (hst:st.2.length≤100000000):AC Tryz.prog 48 [.bp 0 0 0] [rB st] (fun v bs'=>v=tg (tagR st).1∧bs'=[rB (tagR st).2]):=by
 have h:=take6_ac 85 tagG 32 st hst (fun b hb _=>rtag1_ac b hb);refine AC.N Tryz.func48 Tryz.ntmps48 ?_;intro X hρ hmks;refine NX ?_
 repeat' (first|((first|refine wA13 ?_)<;>(try refine NX ?_))|refine wT4 ?_|with_reducible intro Q' hQ'|(refine GC ?_;refine ⟨fun hc=>?_,fun hc=>?_⟩)|simp only [la])
 (exact RetQ.A [(0,0)] (by exact ⟨rfl,rfl⟩))
def pk0:Pkt:=⟨0,0,0,0,0,[],z32⟩
abbrev Rw:=Int×List UInt8
def r1 (st:Rw):Rw:=(intR st).2
def r2 (st:Rw):Rw:=(intR (r1 st)).2
def r3 (st:Rw):Rw:=(intR (r2 st)).2
def r4 (st:Rw):Rw:=(intR (r3 st)).2
def r5 (st:Rw):Rw:=(intR (r4 st)).2
def r6 (st:Rw):Rw:=(bytesR (r5 st)).2
def r7 (st:Rw):Rw:=(tagR (r6 st)).2
def packR (st:Rw):Pkt:=⟨(intR st).1,(intR (r1 st)).1,(intR (r2 st)).1,(intR (r3 st)).1,(intR (r4 st)).1,(bytesR (r5 st)).1,(tagR (r6 st)).1⟩
def parseP (b:List UInt8):Pkt×Int:=if endR (r7 (newR b))=0∧mayP (packR (newR b))=true then (packR (newR b),0) else (pk0,190)
theorem newR_le' {b:List UInt8} {k:Nat} (h:b.length≤k):(newR b).2.length≤k:=by
 unfold newR;split
 ·simp
 ·exact h
theorem int_le {st:Rw} {k:Nat} (h:st.2.length≤k):(intR st).2.2.length≤k:=takeS_len h
theorem bytes_le {st:Rw} {k:Nat} (h:st.2.length≤k):(bytesR st).2.2.length≤k:=takeS_len (takeS_len h)
theorem tag_le {st:Rw} {k:Nat} (h:st.2.length≤k):(tagR st).2.2.length≤k:=takeS_len h
theorem parseQ_ac (b:List UInt8) (s0 s1 s2 s3 s4 s5 s6 s7:Rw) (a1 a2 a3 a4 a5:Int) (a6 a7:List UInt8) (ee:Int) (mm:Bool) (R:Pkt×Int)
 (h0:AC Tryz.prog 45 [bs none b] [] (fun v bs'=>v=.bp 0 0 0∧bs'=[rB s0]))
 (i1:AC Tryz.prog 46 [.bp 0 0 0] [rB s0] (fun v bs'=>v=I a1∧bs'=[rB s1]))
 (i2:AC Tryz.prog 46 [.bp 0 0 0] [rB s1] (fun v bs'=>v=I a2∧bs'=[rB s2]))
 (i3:AC Tryz.prog 46 [.bp 0 0 0] [rB s2] (fun v bs'=>v=I a3∧bs'=[rB s3]))
 (i4:AC Tryz.prog 46 [.bp 0 0 0] [rB s3] (fun v bs'=>v=I a4∧bs'=[rB s4]))
 (i5:AC Tryz.prog 46 [.bp 0 0 0] [rB s4] (fun v bs'=>v=I a5∧bs'=[rB s5]))
 (i6:AC Tryz.prog 47 [.bp 0 0 0] [rB s5] (fun v bs'=>v=bs none a6∧bs'=[rB s6]))
 (i7:AC Tryz.prog 48 [.bp 0 0 0] [rB s6] (fun v bs'=>v=tg a7∧bs'=[rB s7]))
 (i8:AC Tryz.prog 49 [.bp 0 0 0] [rB s7] (fun v bs'=>v=I ee∧bs'=[rB s7]))
 (i9:AC Tryz.prog 50 [.ag (eP ⟨a1,a2,a3,a4,a5,a6,a7⟩)] [] (fun v bs'=>v=B mm∧bs'=[]))
 (hR:R=if ee=0∧mm=true then (⟨a1,a2,a3,a4,a5,a6,a7⟩,0) else (pk0,190)) :
 AC Tryz.prog 18 [bs none b] [] (fun v bs'=>v=.tu [.ag (eP R.1),I R.2]∧bs'=[]):=by
 by_cases hg:ee=0∧mm=true
 ·rw [if_pos hg] at hR;subst hR;obtain ⟨rfl,rfl⟩:=hg;refine AC.N Tryz.func18 Tryz.ntmps18 ?_;intro X hρ hmks;refine NX ?_;refine CP.gh gh_slot ?_;refine NX ?_
  refine CP.gh gh_slot ?_;refine NX ?_
  refine CP.gh gh_slot ?_;refine NX ?_
  refine CP.gh gh_slot ?_;refine NX ?_
  repeat' (first|((first|refine wA10 ?_|(refine GA ?_;refine ⟨fun hg=>?_,fun hg=>?_⟩)|refine aC4 i1 ?_|refine aC4 i2 ?_|refine aC4 i3 ?_|refine aC4 i4 ?_)<;>(try refine NX ?_))|refine wT4 ?_|with_reducible intro Q' hQ'|(refine GC ?_;refine ⟨fun hc=>?_,fun hc=>?_⟩)|simp only [la])
  all_goals first
   | (exact RetQ.A [] (by exact ⟨rfl,rfl⟩))
   | (exfalso;(repeat (rename AC _ _ _ _ _=>hzz;clear hzz));simp at *;done)
 ·rw [if_neg hg] at hR;subst hR;refine AC.N Tryz.func18 Tryz.ntmps18 ?_;intro X hρ hmks;refine NX ?_;refine CP.gh gh_slot ?_;refine NX ?_
  refine CP.gh gh_slot ?_;refine NX ?_
  refine CP.gh gh_slot ?_;refine NX ?_
  refine CP.gh gh_slot ?_;refine NX ?_
  repeat' (first|((first|refine wA10 ?_|(refine GA ?_;refine ⟨fun hg=>?_,fun hg=>?_⟩)|refine aC4 i1 ?_|refine aC4 i2 ?_|refine aC4 i3 ?_|refine aC4 i4 ?_)<;>(try refine NX ?_))|refine wT4 ?_|with_reducible intro Q' hQ'|(refine GC ?_;refine ⟨fun hc=>?_,fun hc=>?_⟩)|simp only [la])
  all_goals first
   | (exact RetQ.A [] (by exact ⟨rfl,rfl⟩))
   | (exfalso;(repeat (rename AC _ _ _ _ _=>hzz;clear hzz));simp at *;simp_all;done)
theorem parseP_ac (b:List UInt8) (hb:b.length≤100000000):AC Tryz.prog 18 [bs none b] [] (fun v bs'=>v=.tu [.ag (eP (parseP b).1),I (parseP b).2]∧bs'=[]):=by
 have l0:=newR_le' hb;have l1:(r1 (newR b)).2.length≤100000000:=int_le l0;have l2:(r2 (newR b)).2.length≤100000000:=int_le l1;have l3:(r3 (newR b)).2.length≤100000000:=int_le l2;have l4:(r4 (newR b)).2.length≤100000000:=int_le l3;have l5:(r5 (newR b)).2.length≤100000000:=int_le l4;have l6:(r6 (newR b)).2.length≤100000000:=bytes_le l5;exact parseQ_ac b _ _ _ _ _ _ _ _ _ _ _ _ _ _ _ _ _ _ (rnew_ac b hb) (rint_ac _ l0) (rint_ac _ l1) (rint_ac _ l2) (rint_ac _ l3) (rint_ac _ l4) (rbytes_ac _ l5) (rtag_ac _ l6) (rend_ac _) (mayP_ac _) rfl
theorem parseP_body (b:List UInt8) {k:Nat} (h:b.length≤k):(parseP b).1.body.length≤k:=by
 unfold parseP;split
 ·show (takeS ([]:List UInt8) bytesG _ _).1.length≤k
  have h5:(r5 (newR b)).2.length≤k:=int_le (int_le (int_le (int_le (int_le (newR_le' h)))));have h6:(lenR (r5 (newR b))).2.2.length≤k:=takeS_len h5;unfold takeS;split
  ·simp
  ·split
   ·simp
   ·simp only [bytesG,if_true,List.length_take];omega
 ·simp [pk0]
theorem takeS_P {α:Type} (p:α→Prop) {z:α} {f:List UInt8→α×Bool} {n:Int} {st:Int×List UInt8} (hz:p z) (hf:∀ b,b.length=n.toNat→p (f b).1):p (takeS z f n st).1:=by
 unfold takeS;split
 ·exact hz
 ·split
  ·exact hz
  ·rename_i h1 h2
   split
   ·exact hf _ (by rw [List.length_take];omega)
   ·exact hz
theorem toI_le (n:Nat):toI n≤9223372036854775807:=by
 unfold toI;simp only [IntKind.wrap,IntKind.bits,IntKind.signed];simp;split<;>omega
theorem intR_le (st:Rw):(intR st).1≤9223372036854775807:=takeS_P (fun n:Int=>n≤9223372036854775807) (by decide) fun b _=>toI_le _
theorem tagR_len (st:Rw):(tagR st).1.length=32:=takeS_P (fun l:List UInt8=>l.length=32) (by simp) fun b h=>by simpa [tagG] using h
theorem parseP_tag (b:List UInt8):(parseP b).1.tag.length=32:=by
 unfold parseP;split
 ·exact tagR_len _
 ·simp [pk0]
theorem parseP_seqn (b:List UInt8):(parseP b).1.seqn≤9223372036854775807:=by
 unfold parseP;split
 ·exact intR_le _
 ·simp [pk0]
def Ends.get (x:Ends) (b:List UInt8):(Pkt×Int)×Ends:=
 if (parseP b).2≠0∨(parseP b).1.to≠x.who then ((pk0,190),x)
 else if (parseP b).1.tag≠tagS x.root (parseP b).1 then ((pk0,91),x)
 else
  let p:=(parseP b).1
  let t:=(got (p.frm,p.epoch) x.wins Wn.new).take p.boot p.seqn
  let x':Ends:={ x with wins:=puts (p.frm,p.epoch) x.wins t.2 }
  if t.1≠0 then ((pk0,t.1),x') else ((p,0),x')
theorem pk0_eP:eP pk0=eP ⟨0,0,0,0,0,[],List.replicate 32 0⟩:=rfl
theorem parse_two (b:List UInt8):parseP b=(pk0,190)∨((parseP b).2=0∧mayP (parseP b).1=true):=by
 unfold parseP;split
 ·rename_i h;exact .inr ⟨rfl,h.2⟩
 ·exact .inl rfl
theorem get_bad (x:Ends) (b:List UInt8) (hb:b.length≤100000000) (h:parseP b=(pk0,190)):AC Tryz.prog 61 [.bp 0 0 0,bs none b] [xE x] (fun v bs'=>v=.tu [.ag (eP (x.get b).1.1),I (x.get b).1.2]∧bs'=[xE (x.get b).2]):=by
 have e:x.get b=((pk0,190),x):=by
  unfold Ends.get;rw [h,if_pos (.inl (by decide))]
 rw [e];have h1:=lnone_ac x;have h2:=parseP_ac b hb;rw [h] at h2;dsimp only at h2 ⊢;rw [pk0_eP,eP_z] at h2 ⊢;refine AC.N Tryz.func61 Tryz.ntmps61 ?_;intro X hρ hmks;refine NX ?_
 repeat' (first|((first|refine wA1 ?_|(refine GA ?_;refine ⟨fun hg=>?_,fun hg=>?_⟩)|(refine GV ?_;intro c hnil;simp only [nz])|refine wA2 ?_|refine wD3 ?_)<;>(try refine NQ ?_))|refine wT2 ?_|with_reducible intro Q' hQ'|(refine GC ?_;refine ⟨fun hc=>?_,fun hc=>?_⟩)|simp only [la])
 (exact RetQ.A [(0,0)] (by exact ⟨rfl,rfl⟩))
theorem get_far (x:Ends) (b:List UInt8) (hb:b.length≤100000000) (h:(parseP b).2=0) (h3:(parseP b).1.to≠x.who):AC Tryz.prog 61 [.bp 0 0 0,bs none b] [xE x] (fun v bs'=>v=.tu [.ag (eP (x.get b).1.1),I (x.get b).1.2]∧bs'=[xE (x.get b).2]):=by
 have e:x.get b=((pk0,190),x):=by
  unfold Ends.get;rw [if_pos (.inr h3)]
 rw [e];have h1:=lnone_ac x;have h2:=parseP_ac b hb;rw [h] at h2;generalize (parseP b).1=p at *;dsimp only at h2 ⊢;rw [pk0_eP,eP_z];have d1:(p.to != x.who)=true:=by simpa using h3
 refine AC.N Tryz.func61 Tryz.ntmps61 ?_;intro X hρ hmks;refine NX ?_
 repeat' (first|((first|refine wA1 ?_|(refine GA ?_;refine ⟨fun hg=>?_,fun hg=>?_⟩)|(refine GV ?_;intro c hnil;simp only [nz])|refine wA2 ?_|refine wD3 ?_)<;>(try simp only [d1,nq,Nat.reduceBEq,Nat.reduceAdd,Nat.reduceSub]))|refine wT2 ?_|with_reducible intro Q' hQ'|(refine GC ?_;refine ⟨fun hc=>?_,fun hc=>?_⟩)|simp only [la])
 (exact RetQ.A [(0,0)] (by exact ⟨rfl,rfl⟩))
theorem get_tag (x:Ends) (b:List UInt8) (hb:b.length≤60000) (hr:x.root.length≤10000) (h:(parseP b).2=0) (h3:(parseP b).1.to=x.who) (h4:(parseP b).1.tag≠tagS x.root (parseP b).1):AC Tryz.prog 61 [.bp 0 0 0,bs none b] [xE x] (fun v bs'=>v=.tu [.ag (eP (x.get b).1.1),I (x.get b).1.2]∧bs'=[xE (x.get b).2]):=by
 have e:x.get b=((pk0,91),x):=by
  unfold Ends.get;rw [if_neg (by rw [h,h3];simp),if_pos h4]
 rw [e];have h1:=lnone_ac x;have h2:=parseP_ac b (by omega);have hbl:=parseP_body b hb;have htl:=parseP_tag b;rw [h] at h2;generalize (parseP b).1=p at *;have h5:=right_ac x.root p hr hbl htl;rw [decide_eq_false h4] at h5;dsimp only at h2 ⊢;rw [pk0_eP,eP_z];have d1:(p.to != x.who)=false:=by simpa using h3
 clear h4 e;refine AC.N Tryz.func61 Tryz.ntmps61 ?_;intro X hρ hmks;refine NX ?_
 repeat' (first|((first|refine wA1 ?_|(refine GA ?_;refine ⟨fun hg=>?_,fun hg=>?_⟩)|(refine GV ?_;intro c hnil;simp only [nz])|refine wA2 ?_|refine wD3 ?_)<;>(try simp only [d1,nq,Nat.reduceBEq,Nat.reduceAdd,Nat.reduceSub]))|refine wT2 ?_|with_reducible intro Q' hQ'|(refine GC ?_;refine ⟨fun hc=>?_,fun hc=>?_⟩)|simp only [la])
 (exact RetQ.A [(0,0)] (by exact ⟨rfl,rfl⟩))
/-- the document's window -/
structure Dw where
 boot:Int
 came:List Int
def Dw.new:Dw:=⟨-1,[]⟩
/-- what is put is got -/
theorem at_none {α:Type} {s:Sd}:∀ {l:List (Sd×α)},at_ s l=none→∀ p∈l,s≠p.1
 | [],_,p,hp=>by cases hp
 | q :: l,h,p,hp=>by
  unfold at_ at h;split at h
  ·cases h
  ·rename_i hq
   rcases List.mem_cons.1 hp with rfl|hp
   ·exact hq
   ·exact at_none (Option.map_eq_none_iff.1 h) p hp
theorem at_cons {α:Type} (s:Sd) (q:Sd×α) (l:List (Sd×α)):at_ s (q :: l)=if s=q.1 then some 0 else (at_ s l).map (· + 1):=rfl
theorem got_cons {α:Type} (s:Sd) (q:Sd×α) (l:List (Sd×α)) (d:α):got s (q :: l) d=if s=q.1 then q.2 else got s l d:=by
 unfold got;rw [at_cons]
 by_cases h:s=q.1
 ·rw [if_pos h,if_pos h];rfl
 ·rw [if_neg h,if_neg h]
  cases at_ s l<;>rfl
theorem puts_cons {α:Type} (s:Sd) (q:Sd×α) (l:List (Sd×α)) (v:α):puts s (q :: l) v=if s=q.1 then (s,v) :: l else q :: puts s l v:=by
 unfold puts;rw [at_cons]
 by_cases h:s=q.1
 ·rw [if_pos h,if_pos h];rfl
 ·rw [if_neg h,if_neg h]
  cases at_ s l<;>rfl
theorem got_puts {α:Type} (s t:Sd) (v d:α):∀ l:List (Sd×α),got t (puts s l v) d=if t=s then v else got t l d
 | []=>by
  show got t [(s,v)] d=_
  rw [got_cons]
 | q :: l=>by
  have ih:=got_puts s t v d l;rw [puts_cons]
  by_cases h:s=q.1
  ·rw [if_pos h,got_cons,got_cons];dsimp only
   by_cases ht:t=s
   ·rw [if_pos ht,if_pos ht]
   ·rw [if_neg ht,if_neg ht,if_neg (by rw [←h];exact ht)]
  ·rw [if_neg h,got_cons,got_cons,ih]
   by_cases ht:t=q.1
   ·rw [if_pos ht,if_pos ht,if_neg (by rw [ht];exact Ne.symm h)]
   ·rw [if_neg ht,if_neg ht]
/-- the document's ends -/
structure De where
 root:List UInt8
 who:Int
 boot:Int
 l:List (Sd×(Int×Dw))
abbrev De.at (y:De) (s:Sd):Int×Dw:=got s y.l (0,Dw.new)
def De.put (y:De) (s:Sd) (v:Int×Dw):De:={ y with l:=puts s y.l v }
def De.pkt (y:De) (to epoch:Int) (body:List UInt8):Pkt:=⟨y.who,to,epoch,y.boot,(y.at (to,epoch)).1 + 1,body,List.replicate 32 0⟩
def De.send (y:De) (to epoch:Int) (body:List UInt8):(List UInt8×Int)×De:=
 if mayP (y.pkt to epoch body)=true then ((headS (y.pkt to epoch body) ++ tagS y.root (y.pkt to epoch body),0),y.put (to,epoch) ((y.at (to,epoch)).1 + 1,(y.at (to,epoch)).2)) else (([],2),y.put (to,epoch) (y.at (to,epoch)))
abbrev tDw:TypeId:=246
abbrev cmR (l:List Int):List (List AV):=l.map fun n=>[I n]
abbrev cm (l:List Int):AV:=.sl (some 3) 1 (cmR l)
abbrev dwC (w:Dw):List AV:=[I w.boot,cm w.came]
abbrev dwX (w:Dw):Bx:=.c tDw (dwC w)
theorem wA14 {G G':Prop} (K:G') (h:G'→G:=by (intro kz;(with_reducible apply AP.k_any);(refine AP.Y ?_;dsimp only;exact kz))):G:=h K
theorem wA15 {G G':Prop} (K:G') (h:G'→G:=by (intro kz;(with_reducible apply AP.k_any);exact AP.ST kz)):G:=h K
theorem dnew18_ac:AC Tryz.prog 166 [] [] (fun v bs'=>v=.bp 0 0 0∧bs'=[dwX Dw.new]):=by
 refine AC.N Tryz.func166 Tryz.ntmps166 ?_;intro X hρ hmks;refine NX ?_
 repeat' (first|((first|refine wA14 ?_|(refine GA ?_;refine ⟨fun hg=>?_,fun hg=>?_⟩)|((with_reducible apply AP.k_any);refine AP.gh (gh_nilc (j:=0) (u:=1) (off:=1) (e:=3) (k:=1) rfl rfl) ?_)|refine wA15 ?_|(refine GV ?_;intro c hnil;simp only [nz])|refine wA2 ?_)<;>(try refine NQ ?_))|refine wT3 ?_|with_reducible intro Q' hQ'|(refine GC ?_;refine ⟨fun hc=>?_,fun hc=>?_⟩)|simp only [la])
 (exact RetQ.A [(0,1)] (by exact ⟨rfl,rfl⟩))
abbrev tDe:TypeId:=142
abbrev tDs:TypeId:=196
abbrev sdC (p:Sd×(Int×Dw)):List AV:=[I p.1.1,I p.1.2,I p.2.1,.ob tDw (dwC p.2.2)]
abbrev deC (y:De):List AV:=[bs none y.root,I y.who,I y.boot,.sl (some tDs) 4 (y.l.map sdC)]
abbrev deX (y:De):Bx:=.c tDe (deC y)
theorem dnew19_ac' (root:List UInt8) (who boot:Int) (hr:root.length≤100000000):AC Tryz.prog 25 [bs none root,I who,I boot] [] (fun v bs'=>v=.bp 0 0 0∧bs'=[.c tDe [bs none root,I who,I boot,.sl (some tDs) 4 []]]):=by
 have h1:=copy_ac root hr;refine AC.N Tryz.func25 Tryz.ntmps25 ?_;intro X hρ hmks;refine NX ?_;refine CP.gh gh_slot ?_;refine NX ?_
 refine CP.gh gh_slot ?_;refine NX ?_
 repeat' (first|((first|refine wA14 ?_|(refine GA ?_;refine ⟨fun hg=>?_,fun hg=>?_⟩)|((with_reducible apply AP.k_any);refine AP.gh (gh_nilc (j:=1) (u:=1) (off:=3) (e:=tDs) (k:=4) rfl rfl) ?_)|refine wA15 ?_|(refine GV ?_;intro c hnil;simp only [nz])|refine wA2 ?_)<;>(try refine NQ ?_))|refine wT3 ?_|with_reducible intro Q' hQ'|(refine GC ?_;refine ⟨fun hc=>?_,fun hc=>?_⟩)|simp only [la])
 exact RetQ.A [(1,1)] (by exact ⟨rfl,rfl⟩) (ho:=by ((repeat' (first|exact ClsC.nil|apply ClsC.nl|apply ClsC.leaf rfl|apply ClsC.hd rfl|apply ClsC.ob rfl|apply ClsC.mo rfl|apply ClsC.mp rfl|apply ClsC.hp rfl|exact Out.nil|apply Out.cons rfl|apply Out.r rfl|apply Out.f rfl|apply ClsC.fn|apply ClsC.fz rfl (ro_B _)|apply ClsC.fz rfl (ro_M _)|apply ClsC.fz rfl (ro_E _ _)|apply ClsC.fz rfl rfl));all_goals fail))
theorem dnew19_ac (root:List UInt8) (who boot:Int) (hr:root.length≤100000000):AC Tryz.prog 25 [bs none root,I who,I boot] [] (fun v bs'=>v=.bp 0 0 0∧bs'=[deX ⟨root,who,boot,[]⟩]):=dnew19_ac' root who boot hr
theorem at_lt {α:Type} {s:Sd}:∀ {l:List (Sd×α)} {n:Nat},at_ s l=some n→∀ i,i < n→∀ p,l[i]? = some p→s≠p.1
 | [],_,h,_,_,_,_=>by simp [at_] at h
 | q :: l,n,h,i,hi,p,hp=>by
  unfold at_ at h;split at h
  ·injection h with h;omega
  ·rename_i hq
   obtain ⟨m,hm,rfl⟩:=Option.map_eq_some_iff.1 h
   cases i with
   | zero=>simp at hp;subst hp;exact hq
   | succ i=>exact at_lt hm i (by omega) p (by simpa using hp)
theorem puts_same {α:Type} {s:Sd} {d:α}:∀ {l:List (Sd×α)} {n:Nat},at_ s l=some n→puts s l (got s l d)=l
 | [],_,h=>by simp [at_] at h
 | q :: l,n,h=>by
  rw [puts_cons,got_cons]
  by_cases hq:s=q.1
  ·rw [if_pos hq,if_pos hq,hq]
  ·rw [if_neg hq,if_neg hq];unfold at_ at h;rw [if_neg hq] at h;obtain ⟨m,hm,rfl⟩:=Option.map_eq_some_iff.1 h;rw [puts_same hm]
def idx (s:Sd) (y:De):Nat:=match at_ s y.l with
 | some n=>n
 | none=>y.l.length
theorem dside_some (y:De) (who epoch:Int) (hl:y.l.length≤1000) {n:Nat} (h:at_ (who,epoch) y.l=some n):AC Tryz.prog 98 [.bp 0 0 0,I who,I epoch] [deX y] (fun v bs'=>v=I n∧bs'=[deX y]):=by
 obtain ⟨v,hv⟩:=at_some h;have hn:n < y.l.length:=(List.getElem?_eq_some_iff.1 hv).1;have hlt:=at_lt h;refine AC.N Tryz.func98 Tryz.ntmps98 ?_;intro X hρ hmks;refine NX ?_
 repeat' (first|((first|refine wA1 ?_|(refine GA ?_;refine ⟨fun hg=>?_,fun hg=>?_⟩)|(refine GV ?_;intro c hnil;simp only [nz])|refine wA2 ?_|refine wD3 ?_)<;>(try refine NQ ?_))|refine wT2 ?_|with_reducible intro Q' hQ'|(refine GC ?_;refine ⟨fun hc=>?_,fun hc=>?_⟩)|simp only [la])
 refine cp_loopS [6,7,8,9,10,11,12,13,14,15,16,17,18,19,20,21,22,23,24,25,26,27,28,29,30,31,32,33,34,35,36,37,38,39] (fun a:Nat=>n - a) (fun a=>a≤n) (fun a=>[(7,I a)]) (fun a=>[]) 0 (Nat.zero_le _) (by exact Gh.W) ?_;intro a ha;simp only [setT,deT,setB,List.set_cons_succ,List.set_cons_zero];have hal:a < y.l.length:=by omega
 have q1:decide ((a:Int) < (y.l.length:Int))=true:=by simp;omega
 have q2:IntKind.i64.wrap ((a:Int) + 1)=((a + 1:Nat):Int):=wrap_i64 (by omega) (by omega)
 by_cases he:a=n
 ·subst he;have hr:(y.l.map sdC)[a]? = some [I who,I epoch,I v.1,.ob tDw (dwC v.2)]:=by rw [List.getElem?_map,hv];rfl
  have q3:(who == who)=true:=by simp
  have q4:(epoch == epoch)=true:=by simp
  repeat' (first|((first|refine wA1 ?_|(refine GA ?_;refine ⟨fun hg=>?_,fun hg=>?_⟩)|(refine GV ?_;intro c hnil;simp only [nz])|refine wA2 ?_|refine wD3 ?_)<;>(try simp only [q1,q2,q3,q4,nq,Nat.reduceBEq,Nat.reduceAdd,Nat.reduceSub]))|refine wT2 ?_|with_reducible intro Q' hQ'|(refine GC ?_;refine ⟨fun hc=>?_,fun hc=>?_⟩)|simp only [la])
  (exact RetQ.A [(0,0)] (by exact ⟨rfl,rfl⟩))
 ·have hne:=hlt a (by omega) y.l[a] (List.getElem?_eq_getElem hal);have hr:(y.l.map sdC)[a]? = some [I y.l[a].1.1,I y.l[a].1.2,I y.l[a].2.1,.ob tDw (dwC y.l[a].2.2)]:=by rw [List.getElem?_map,List.getElem?_eq_getElem hal];rfl
  by_cases hw:y.l[a].1.1=who
  ·have q3:(y.l[a].1.1 == who)=true:=by simp [hw]
   have q4:(y.l[a].1.2 == epoch)=false:=by
    rw [beq_eq_false_iff_ne];intro hx;exact hne (by rw [←hw,←hx])
   repeat' (first|((first|refine wA1 ?_|(refine GA ?_;refine ⟨fun hg=>?_,fun hg=>?_⟩)|(refine GV ?_;intro c hnil;simp only [nz])|refine wA2 ?_|refine wD3 ?_)<;>(try simp only [q1,q2,q3,q4,nq,Nat.reduceBEq,Nat.reduceAdd,Nat.reduceSub]))|refine wT2 ?_|with_reducible intro Q' hQ'|(refine GC ?_;refine ⟨fun hc=>?_,fun hc=>?_⟩)|simp only [la])
   exact ⟨a + 1,by omega,by omega,by exact Gh.W⟩
  ·have q3:(y.l[a].1.1 == who)=false:=by simp [hw]
   repeat' (first|((first|refine wA1 ?_|(refine GA ?_;refine ⟨fun hg=>?_,fun hg=>?_⟩)|(refine GV ?_;intro c hnil;simp only [nz])|refine wA2 ?_|refine wD3 ?_)<;>(try simp only [q1,q2,q3,nq,Nat.reduceBEq,Nat.reduceAdd,Nat.reduceSub]))|refine wT2 ?_|with_reducible intro Q' hQ'|(refine GC ?_;refine ⟨fun hc=>?_,fun hc=>?_⟩)|simp only [la])
   exact ⟨a + 1,by omega,by omega,by exact Gh.W⟩
theorem dside_none (y:De) (who epoch:Int) (hl:y.l.length≤1000) (h:at_ (who,epoch) y.l=none):AC Tryz.prog 98 [.bp 0 0 0,I who,I epoch] [deX y] (fun v bs'=>v=I y.l.length∧bs'=[deX { y with l:=y.l ++ [((who,epoch),(0,Dw.new))] }]):=by
 have hno:=at_none h;have hnew:=dnew18_ac;refine AC.N Tryz.func98 Tryz.ntmps98 ?_;intro X hρ hmks;refine NX ?_
 repeat' (first|((first|refine wA1 ?_|(refine GA ?_;refine ⟨fun hg=>?_,fun hg=>?_⟩)|(refine GV ?_;intro c hnil;simp only [nz])|refine wA2 ?_|refine wD3 ?_)<;>(try refine NQ ?_))|refine wT2 ?_|with_reducible intro Q' hQ'|(refine GC ?_;refine ⟨fun hc=>?_,fun hc=>?_⟩)|simp only [la])
 refine CP.gh gh_slot ?_;refine NX ?_
 refine CP.gh gh_slot ?_;refine NX ?_
 refine cp_loopS [6,7,8,9,10,11,12,13,14,15,16,17,18,19,20,21,22,23,24,25,26,27,28,29,30,31,32,33,34,35,36,37,38,39] (fun a:Nat=>y.l.length - a) (fun a=>a≤y.l.length) (fun a=>[(7,I a)]) (fun a=>[]) 0 (Nat.zero_le _) (by exact Gh.W) ?_;intro a ha;simp only [setT,deT,setB,List.set_cons_succ,List.set_cons_zero]
 by_cases hal:a < y.l.length
 ·have q1:decide ((a:Int) < (y.l.length:Int))=true:=by simp;omega
  have q2:IntKind.i64.wrap ((a:Int) + 1)=((a + 1:Nat):Int):=wrap_i64 (by omega) (by omega);have hne:=hno y.l[a] (List.getElem_mem hal);have hr:(y.l.map sdC)[a]? = some [I y.l[a].1.1,I y.l[a].1.2,I y.l[a].2.1,.ob tDw (dwC y.l[a].2.2)]:=by rw [List.getElem?_map,List.getElem?_eq_getElem hal];rfl
  by_cases hw:y.l[a].1.1=who
  ·have q3:(y.l[a].1.1 == who)=true:=by simp [hw]
   have q4:(y.l[a].1.2 == epoch)=false:=by
    rw [beq_eq_false_iff_ne];intro hx;exact hne (by rw [←hw,←hx])
   repeat' (first|((first|refine wA1 ?_|(refine GA ?_;refine ⟨fun hg=>?_,fun hg=>?_⟩)|(refine GV ?_;intro c hnil;simp only [nz])|refine wA2 ?_|refine wD3 ?_)<;>(try simp only [q1,q2,q3,q4,nq,Nat.reduceBEq,Nat.reduceAdd,Nat.reduceSub]))|refine wT2 ?_|with_reducible intro Q' hQ'|(refine GC ?_;refine ⟨fun hc=>?_,fun hc=>?_⟩)|simp only [la])
   exact ⟨a + 1,by omega,by omega,by exact Gh.W⟩
  ·have q3:(y.l[a].1.1 == who)=false:=by simp [hw]
   repeat' (first|((first|refine wA1 ?_|(refine GA ?_;refine ⟨fun hg=>?_,fun hg=>?_⟩)|(refine GV ?_;intro c hnil;simp only [nz])|refine wA2 ?_|refine wD3 ?_)<;>(try simp only [q1,q2,q3,nq,Nat.reduceBEq,Nat.reduceAdd,Nat.reduceSub]))|refine wT2 ?_|with_reducible intro Q' hQ'|(refine GC ?_;refine ⟨fun hc=>?_,fun hc=>?_⟩)|simp only [la])
   exact ⟨a + 1,by omega,by omega,by exact Gh.W⟩
 ·obtain rfl:a=y.l.length:=by omega
  have q1:decide ((y.l.length:Int) < (y.l.length:Int))=false:=by simp
  have hl1:(y.l.map sdC).length + 1≤1000000000:=by rw [List.length_map];omega
  have hx:(y.l ++ [((who,epoch),((0:Int),Dw.new))]).map sdC=y.l.map sdC ++ [[I who,I epoch,I 0,.ob tDw (dwC Dw.new)]]:=List.map_append;have q5:IntKind.i64.wrap (((y.l.length + 1:Nat):Int) - 1)=(y.l.length:Int):=by rw [wrap_i64 (by omega) (by omega)];omega
  repeat' (first|((first|refine wA1 ?_|(refine GA ?_;refine ⟨fun hg=>?_,fun hg=>?_⟩)|(refine GV ?_;intro c hnil;simp only [nz])|refine wA2 ?_|refine wD3 ?_)<;>(try simp only [q1,q5,List.length_append,List.length_singleton,nq,Nat.reduceBEq,Nat.reduceAdd,Nat.reduceSub]))|refine wT2 ?_|with_reducible intro Q' hQ'|(refine GC ?_;refine ⟨fun hc=>?_,fun hc=>?_⟩)|simp only [la])
  (exact RetQ.A [(0,0)] (by exact ⟨rfl,congrArg (fun r=>[Bx.c tDe [bs none y.root,I y.who,I y.boot,.sl (some tDs) 4 r]]) hx.symm⟩))
theorem dside_ac (y:De) (who epoch:Int) (hl:y.l.length≤1000):AC Tryz.prog 98 [.bp 0 0 0,I who,I epoch] [deX y] (fun v bs'=>v=I (idx (who,epoch) y)∧bs'=[deX (y.put (who,epoch) (y.at (who,epoch)))]):=by
 cases h:at_ (who,epoch) y.l with
 | none=>
  have e1:idx (who,epoch) y=y.l.length:=by unfold idx;rw [h]
  have e2:y.put (who,epoch) (y.at (who,epoch))={ y with l:=y.l ++ [((who,epoch),(0,Dw.new))] }:=by
   unfold De.put puts De.at got;rw [h]
  rw [e1,e2];exact dside_none y who epoch hl h
 | some n=>
  have e1:idx (who,epoch) y=n:=by unfold idx;rw [h]
  have e2:y.put (who,epoch) (y.at (who,epoch))=y:=by
   unfold De.put De.at;rw [puts_same h]
  rw [e1,e2];exact dside_some y who epoch hl h
theorem puts_idx {y:De} (s:Sd) (v:Int×Dw):(puts s y.l v)[idx s y]? = some (s,v):=by
 unfold puts idx
 cases h:at_ s y.l with
 | none=>simp
 | some n=>
  obtain ⟨x,hx⟩:=at_some h;have:=(List.getElem?_eq_some_iff.1 hx).1;simp [this]
theorem puts_set {y:De} (s:Sd) (v w:Int×Dw):(puts s y.l v).set (idx s y) (s,w)=puts s y.l w:=by
 unfold puts idx
 cases h:at_ s y.l with
 | none=>simp
 | some n=>simp
theorem puts_len {y:De} (s:Sd) (v:Int×Dw):(puts s y.l v).length≤y.l.length + 1∧idx s y < (puts s y.l v).length:=by
 refine ⟨?_,(List.getElem?_eq_some_iff.1 (puts_idx s v)).1⟩;unfold puts
 cases at_ s y.l<;>simp
def De.sealed (y:De) (to epoch:Int) (body:List UInt8):Pkt:={ y.pkt to epoch body with tag:=tagS y.root (y.pkt to epoch body) }
theorem dsend_ac (y:De) (to epoch:Int) (body:List UInt8) (hl:y.l.length≤1000) (hr:y.root.length≤10000) (hb:body.length≤60000) (hn:0≤(y.at (to,epoch)).1∧(y.at (to,epoch)).1≤1000000000) :
 AC Tryz.prog 59 [.bp 0 0 0,I to,I epoch,bs none body] [deX y] (fun v bs'=>v=.tu [bs none (y.send to epoch body).1.1,I (y.send to epoch body).1.2]∧bs'=[deX (y.send to epoch body).2]):=by
 have h1:=dside_ac y to epoch hl;have h2:=dmayP_ac (y.pkt to epoch body);have hw:IntKind.i64.wrap ((y.at (to,epoch)).1 + 1)=(y.at (to,epoch)).1 + 1:=wrap_i64 (by omega) (by omega);obtain ⟨hl2,hl3⟩:=puts_len (y:=y) (to,epoch) (y.at (to,epoch))
 have hro:((puts (to,epoch) y.l (y.at (to,epoch))).map sdC)[idx (to,epoch) y]? = some [I to,I epoch,I (y.at (to,epoch)).1,.ob tDw (dwC (y.at (to,epoch)).2)]:=by
  rw [List.getElem?_map,puts_idx];rfl
 unfold De.put at h1
 cases hm:mayP (y.pkt to epoch body) with
 | false=>
  have e:y.send to epoch body=(([],2),y.put (to,epoch) (y.at (to,epoch))):=if_neg (by rw [hm];simp);rw [e];rw [hm] at h2;unfold De.pkt at *;rw [eP_z] at h2;unfold De.put;clear e;generalize y.at (to,epoch)=v at *;generalize puts (to,epoch) y.l v=L at *;generalize idx (to,epoch) y=i at *;refine AC.N Tryz.func59 Tryz.ntmps59 ?_;intro X hρ hmks;refine NX ?_;refine CP.gh gh_slot ?_;refine NX ?_
  refine CP.gh gh_slot ?_;refine NX ?_
  refine CP.gh gh_slot ?_;refine NX ?_
  repeat' (first|((first|refine wA1 ?_|(refine GA ?_;refine ⟨fun hg=>?_,fun hg=>?_⟩)|(refine GV ?_;intro c hnil;simp only [nz])|refine aC4 h1 ?_|refine wA2 ?_|refine wD4 ?_|refine dC3 h1 ?_)<;>(try simp only [hw,nq,Nat.reduceBEq,Nat.reduceAdd,Nat.reduceSub]))|refine wT2 ?_|with_reducible intro Q' hQ'|(refine GC ?_;refine ⟨fun hc=>?_,fun hc=>?_⟩)|simp only [la])
  (exact RetQ.A [(0,0)] (by exact ⟨rfl,rfl⟩))
 | true=>
  have e:y.send to epoch body=((headS (y.pkt to epoch body) ++ tagS y.root (y.pkt to epoch body),0),y.put (to,epoch) ((y.at (to,epoch)).1 + 1,(y.at (to,epoch)).2)):=if_pos hm;rw [e];rw [hm] at h2;have h3:=dtagP_ac y.root (y.pkt to epoch body) hr hb;have h4:=dpbytes_ac (y.sealed to epoch body) hb (tagS_len _ _);rw [show headS (y.sealed to epoch body)=headS (y.pkt to epoch body) from headS_tag _ _] at h4
  have hlen:(headS (y.pkt to epoch body) ++ tagS y.root (y.pkt to epoch body)).length≤65536:=by
   rw [List.length_append,headS_len,tagS_len];show _ + body.length + _≤_;omega
  have hset:((puts (to,epoch) y.l (y.at (to,epoch))).map sdC).set (idx (to,epoch) y) [I to,I epoch,I ((y.at (to,epoch)).1 + 1),.ob tDw (dwC (y.at (to,epoch)).2)]=(puts (to,epoch) y.l ((y.at (to,epoch)).1 + 1,(y.at (to,epoch)).2)).map sdC:=by
   have:=congrArg (List.map sdC) (puts_set (y:=y) (to,epoch) (y.at (to,epoch)) ((y.at (to,epoch)).1 + 1,(y.at (to,epoch)).2));rw [List.map_set] at this;exact this
  unfold De.put;unfold De.sealed at h4;generalize headS (y.pkt to epoch body)=hd at *;generalize tagS y.root (y.pkt to epoch body)=T at *;unfold De.pkt at *;rw [eP_z] at h2 h3;dsimp only at h4;generalize hd ++ T=z at *;have hd1:decide ((65536:Int) < (z.length:Int))=false:=by simp;omega
  clear e;generalize puts (to,epoch) y.l ((y.at (to,epoch)).1 + 1,(y.at (to,epoch)).2)=L2 at *;generalize y.at (to,epoch)=v at *;generalize puts (to,epoch) y.l v=L at *;generalize idx (to,epoch) y=i at *;refine AC.N Tryz.func59 Tryz.ntmps59 ?_;intro X hρ hmks;refine NX ?_;refine CP.gh gh_slot ?_;refine NX ?_
  refine CP.gh gh_slot ?_;refine NX ?_
  refine CP.gh gh_slot ?_;refine NX ?_
  repeat' (first|((first|refine wA1 ?_|(refine GA ?_;refine ⟨fun hg=>?_,fun hg=>?_⟩)|(refine GV ?_;intro c hnil;simp only [nz])|refine aC4 h1 ?_|refine wA2 ?_|refine wD4 ?_|refine dC3 h1 ?_)<;>(try simp only [hw,hd1,nq,Nat.reduceBEq,Nat.reduceAdd,Nat.reduceSub]))|refine wT2 ?_|with_reducible intro Q' hQ'|(refine GC ?_;refine ⟨fun hc=>?_,fun hc=>?_⟩)|simp only [la])
  (exact RetQ.A [(0,0)] (by exact ⟨rfl,congrArg (fun r=>[Bx.c tDe [bs none y.root,I y.who,I y.boot,.sl (some tDs) 4 r]]) hset⟩))
def clientS (who id:Int):Bool:=decide (0≤who) && decide (who < 4) && decide (1≤id)
def mayE (e:Entry):Bool:=decide (1≤e.pos) && decide (0≤e.stamp) && clientS e.client e.id && decide (e.body.length≤1024)
def allG (p:Nat→Member→Bool):Nat→List Member→Bool
 | _,[]=>true
 | k,m :: l=>p k m && allG p (k + 1) l
theorem client_ac (who id:Int):AC Tryz.prog 141 [I who,I id] [] (fun v bs=>v=B (clientS who id)∧bs=[]):=by
 refine AC.N Tryz.func141 Tryz.ntmps141 ?_;intro X hρ hmks;refine NX ?_
 repeat' (first|((first|refine wA5 ?_|(refine GA ?_;refine ⟨fun hg=>?_,fun hg=>?_⟩))<;>(try refine NX ?_))|refine wT4 ?_|with_reducible intro Q' hQ'|(refine GC ?_;refine ⟨fun hc=>?_,fun hc=>?_⟩)|simp only [la])
 all_goals (refine RetQ.B [] ?_;(try dsimp only [resV,List.getD_cons_succ,List.getD_cons_zero]);((refine ⟨?_,rfl⟩;simp at *;simp [clientS];try omega)))
theorem mayEntry_ac (e:Entry):AC Tryz.prog 196 [.ag (eE none e)] [] (fun v bs=>v=B (mayE e)∧bs=[]):=by
 refine AC.N Tryz.func196 Tryz.ntmps196 ?_;intro X hρ hmks;refine NX ?_
 repeat' (first|((first|((with_reducible apply AP.k_any);first|refine AP.S ?_|(refine AP.Y ?_;dsimp only)|refine AP.G (fun hg=>?_) (fun hg=>?_))|((with_reducible apply AP.k_any);refine AP.C (client_ac _ _) ?_)|((with_reducible apply AQ.k_any);refine AQ.CQ (client_ac _ _) ?_))<;>(try refine NX ?_))|(refine AP.N0 ?_;try clear hQ' Q')|((with_reducible apply CP.k_reg);refine cp_regG fun Q' hQ'=>?_)|refine CP.W ?_|refine cp_cond rfl (fun hc=>?_) (fun hc=>?_)|(simp only [List.append_eq,List.cons_append,List.nil_append]))
 all_goals (refine RetQ.B [] ?_;(try dsimp only [resV,List.getD_cons_succ,List.getD_cons_zero]);((refine ⟨?_,rfl⟩;simp at *;simp [mayE, *];try omega)))
theorem all1_ac (f:Nat) (c:Config) (p:Nat→Member→Bool) (l:List Member) (hl:l.length≤100000000) (hf:∀ (i:Nat) (h:i < l.length),AC Tryz.prog f [I i,.ag (eM l[i]),.bp 0 0 0] [.c 37 (eC none c)] (fun v bs=>v=B (p i l[i])∧bs=[.c 37 (eC none c)])) :
 AC Tryz.prog 203 [ms none l,.fn f [.bp 0 0 0]] [.c 37 (eC none c)] (fun v bs=>v=B (allG p 0 l)∧bs=[.c 37 (eC none c)]):=by
 refine AC.N Tryz.func203 Tryz.ntmps203 ?_;intro X hρ hmks;refine NX ?_
 repeat' (first|((first|refine wA4 ?_|((with_reducible apply AP.k_any);first|refine AP.E ?_|refine AP.T ?_))<;>(try refine NX ?_))|refine wT4 ?_|with_reducible intro Q' hQ'|(refine GC ?_;refine ⟨fun hc=>?_,fun hc=>?_⟩)|simp only [la])
 refine CP.gh gh_slot ?_;refine NX ?_;refine cp_loopS [4,5,6,9,10,11,12,13,14,15,16,17,18,19] (fun a:Nat×Nat=>l.length - a.1) (fun a=>a.1≤l.length∧allG p 0 l=allG p a.1 (l.drop a.1)) (fun a=>[(9,I a.1)]) (fun a=>[(1,⟨a.2,.x⟩)]) (0,0) ⟨Nat.zero_le _,rfl⟩ (by exact Gh.W) ?_;rintro ⟨k,u⟩ ⟨hk,he⟩;simp only [setT,deT,setB,List.set_cons_succ,List.set_cons_zero];dsimp only at hk he
 by_cases hlt:k < l.length
 ·have hw:IntKind.i64.wrap ((k:Int) + 1)=((k + 1:Nat):Int):=wrap_i64 (by omega) (by omega);rw [List.drop_eq_getElem_cons hlt,allG] at he
  repeat' (first|((first|refine wA4 ?_|((with_reducible apply AP.k_any);first|refine AP.E ?_|refine AP.T ?_)|((with_reducible apply AP.k_any);refine ap_callB 0 [(0,0)] rfl rfl (fn:=f) rfl (hf k hlt) (by (repeat' (first|exact PasC.nil|apply PasC.nil|apply PasC.cons|apply PasV.leaf rfl|apply PasV.nl|apply PasV.bp rfl|apply PasV.vp rfl|apply PasV.pz|exact VsM.nil|apply VsM.cons rfl|apply PasV.lend rfl rfl rfl|apply PasV.lend rfl rfl (ro_B _)|apply PasV.lend rfl rfl (ro_M _)|apply PasV.lend rfl rfl (ro_E _ _)|apply PasV.lend rfl rfl (ro_I _)|apply PasV.lend rfl rfl (by (simp only [rn,List.map_cons,List.map_nil];first|done|rfl))|apply PasV.mv rfl|apply PasV.hk rfl|apply PasV.ag|apply PasV.fn|exact PasV.fs|apply PasV.any|exact rfl))) (by (repeat' (first|exact ClsC.nil|apply ClsC.nl|apply ClsC.leaf rfl|apply ClsC.hd rfl|apply ClsC.ob rfl|apply ClsC.mo rfl|apply ClsC.mp rfl|apply ClsC.hp rfl|exact Out.nil|apply Out.cons rfl|apply Out.r rfl|apply Out.f rfl|apply ClsC.fn|apply ClsC.fz rfl (ro_B _)|apply ClsC.fz rfl (ro_M _)|apply ClsC.fz rfl (ro_E _ _)|apply ClsC.fz rfl rfl))) rfl (by (repeat' (first|exact Bk.nil|apply Bk.cF rfl rfl|(apply Bk.cN rfl;(try refine NX ?_);apply BkN.mk rfl)|apply Bk.r rfl))) (by (repeat' (first|exact RnV.leaf rfl|exact RnV.fs|exact RnC.nil|apply RnC.cons|apply RnV.ag|apply RnV.tu|apply RnV.fn|exact RnV.bp rfl))) rfl ?_))<;>(try refine NX ?_))|refine wT4 ?_|with_reducible intro Q' hQ'|(refine GC ?_;refine ⟨fun hc=>?_,fun hc=>?_⟩)|simp only [la])
  ·(refine RetQ.B [(0,0)] ?_;(try dsimp only [resV,List.getD_cons_succ,List.getD_cons_zero]);((have h:p k l[k]=false:=by simpa using hc);exact ⟨by rw [he,h,Bool.false_and],rfl⟩))
  ·simp only [hw];exact ⟨(k + 1,u + 1),by (dsimp only;omega),⟨by (dsimp only;omega),by (have h:p k l[k]=true:=by simpa using hc);rw [he,h,Bool.true_and]⟩,by exact Gh.W⟩
  ·exfalso;simp at *;omega
 ·rw [List.drop_of_length_le (by omega),allG] at he
  repeat' (first|((first|refine wA4 ?_|((with_reducible apply AP.k_any);first|refine AP.E ?_|refine AP.T ?_))<;>(try refine NX ?_))|refine wT4 ?_|with_reducible intro Q' hQ'|(refine GC ?_;refine ⟨fun hc=>?_,fun hc=>?_⟩)|simp only [la])
  all_goals first
   | (exfalso;simp at *;done)
   | (exfalso;simp at *;omega)
   | (refine RetQ.B [(0,0)] ?_;(try dsimp only [resV,List.getD_cons_succ,List.getD_cons_zero]);(exact ⟨by rw [he],rfl⟩))
theorem all2_ac (f:Nat) (m:Member) (p:Nat→Member→Bool) (l:List Member) (hl:l.length≤100000000) (hf:∀ (i:Nat) (h:i < l.length),AC Tryz.prog f [I i,.ag (eM l[i]),.bp 0 0 0] [.c tM (eM m)] (fun v bs=>v=B (p i l[i])∧bs=[.c tM (eM m)])) :
 AC Tryz.prog 203 [ms none l,.fn f [.bp 0 0 0]] [.c tM (eM m)] (fun v bs=>v=B (allG p 0 l)∧bs=[.c tM (eM m)]):=by
 refine AC.N Tryz.func203 Tryz.ntmps203 ?_;intro X hρ hmks;refine NX ?_
 repeat' (first|((first|refine wA4 ?_|((with_reducible apply AP.k_any);first|refine AP.E ?_|refine AP.T ?_))<;>(try refine NX ?_))|refine wT4 ?_|with_reducible intro Q' hQ'|(refine GC ?_;refine ⟨fun hc=>?_,fun hc=>?_⟩)|simp only [la])
 refine CP.gh gh_slot ?_;refine NX ?_;refine cp_loopS [4,5,6,9,10,11,12,13,14,15,16,17,18,19] (fun a:Nat×Nat=>l.length - a.1) (fun a=>a.1≤l.length∧allG p 0 l=allG p a.1 (l.drop a.1)) (fun a=>[(9,I a.1)]) (fun a=>[(1,⟨a.2,.x⟩)]) (0,0) ⟨Nat.zero_le _,rfl⟩ (by exact Gh.W) ?_;rintro ⟨k,u⟩ ⟨hk,he⟩;simp only [setT,deT,setB,List.set_cons_succ,List.set_cons_zero];dsimp only at hk he
 by_cases hlt:k < l.length
 ·have hw:IntKind.i64.wrap ((k:Int) + 1)=((k + 1:Nat):Int):=wrap_i64 (by omega) (by omega);rw [List.drop_eq_getElem_cons hlt,allG] at he
  repeat' (first|((first|refine wA4 ?_|((with_reducible apply AP.k_any);first|refine AP.E ?_|refine AP.T ?_)|((with_reducible apply AP.k_any);refine ap_callB 0 [(0,0)] rfl rfl (fn:=f) rfl (hf k hlt) (by (repeat' (first|exact PasC.nil|apply PasC.nil|apply PasC.cons|apply PasV.leaf rfl|apply PasV.nl|apply PasV.bp rfl|apply PasV.vp rfl|apply PasV.pz|exact VsM.nil|apply VsM.cons rfl|apply PasV.lend rfl rfl rfl|apply PasV.lend rfl rfl (ro_B _)|apply PasV.lend rfl rfl (ro_M _)|apply PasV.lend rfl rfl (ro_E _ _)|apply PasV.lend rfl rfl (ro_I _)|apply PasV.lend rfl rfl (by (simp only [rn,List.map_cons,List.map_nil];first|done|rfl))|apply PasV.mv rfl|apply PasV.hk rfl|apply PasV.ag|apply PasV.fn|exact PasV.fs|apply PasV.any|exact rfl))) (by (repeat' (first|exact ClsC.nil|apply ClsC.nl|apply ClsC.leaf rfl|apply ClsC.hd rfl|apply ClsC.ob rfl|apply ClsC.mo rfl|apply ClsC.mp rfl|apply ClsC.hp rfl|exact Out.nil|apply Out.cons rfl|apply Out.r rfl|apply Out.f rfl|apply ClsC.fn|apply ClsC.fz rfl (ro_B _)|apply ClsC.fz rfl (ro_M _)|apply ClsC.fz rfl (ro_E _ _)|apply ClsC.fz rfl rfl))) rfl (by (repeat' (first|exact Bk.nil|apply Bk.cF rfl rfl|(apply Bk.cN rfl;(try refine NX ?_);apply BkN.mk rfl)|apply Bk.r rfl))) (by (repeat' (first|exact RnV.leaf rfl|exact RnV.fs|exact RnC.nil|apply RnC.cons|apply RnV.ag|apply RnV.tu|apply RnV.fn|exact RnV.bp rfl))) rfl ?_))<;>(try refine NX ?_))|refine wT4 ?_|with_reducible intro Q' hQ'|(refine GC ?_;refine ⟨fun hc=>?_,fun hc=>?_⟩)|simp only [la])
  ·(refine RetQ.B [(0,0)] ?_;(try dsimp only [resV,List.getD_cons_succ,List.getD_cons_zero]);((have h:p k l[k]=false:=by simpa using hc);exact ⟨by rw [he,h,Bool.false_and],rfl⟩))
  ·simp only [hw];exact ⟨(k + 1,u + 1),by (dsimp only;omega),⟨by (dsimp only;omega),by (have h:p k l[k]=true:=by simpa using hc);rw [he,h,Bool.true_and]⟩,by exact Gh.W⟩
  ·exfalso;simp at *;omega
 ·rw [List.drop_of_length_le (by omega),allG] at he
  repeat' (first|((first|refine wA4 ?_|((with_reducible apply AP.k_any);first|refine AP.E ?_|refine AP.T ?_))<;>(try refine NX ?_))|refine wT4 ?_|with_reducible intro Q' hQ'|(refine GC ?_;refine ⟨fun hc=>?_,fun hc=>?_⟩)|simp only [la])
  all_goals first
   | (exfalso;simp at *;done)
   | (exfalso;simp at *;omega)
   | (refine RetQ.B [(0,0)] ?_;(try dsimp only [resV,List.getD_cons_succ,List.getD_cons_zero]);(exact ⟨by rw [he],rfl⟩))
def pNode (n:Int):Nat→Member→Bool:=fun _ x=>x.node != n
def pMem (c:Config):Nat→Member→Bool:=fun i m=>decide (0≤m.node) && decide (m.node < 5) && decide (1≤m.since) && decide (m.since≤c.epoch) && allG (pNode m.node) 0 (c.members.take i)
def mayCfg (c:Config):Bool:=decide (1≤c.epoch) && decide (c.members.length≤5) && allG (pMem c) 0 c.members
theorem mc2_ac (i:Nat) (x m:Member):AC Tryz.prog 205 [I i,.ag (eM x),.bp 0 0 0] [.c tM (eM m)] (fun v bs=>v=B (pNode m.node i x)∧bs=[.c tM (eM m)]):=by
 refine AC.N Tryz.func205 Tryz.ntmps205 ?_;intro X hρ hmks;refine NX ?_
 repeat' (first|((first|refine wA4 ?_)<;>(try refine NX ?_))|refine wT4 ?_|with_reducible intro Q' hQ'|(refine GC ?_;refine ⟨fun hc=>?_,fun hc=>?_⟩)|simp only [la])
 (refine RetQ.B [(0,0)] ?_;(try dsimp only [resV,List.getD_cons_succ,List.getD_cons_zero]);(exact ⟨rfl,rfl⟩))
theorem aC6 {p G G':Prop} (c:p) (K:G') (h:p→G'→G:=by (intro c kz;(with_reducible apply AP.k_any);exact AP.CB [(1,1)] 0 c kz)):G:=h c K
theorem mc1_ac (c:Config) (i:Nat) (m:Member) (hi:i≤c.members.length) (hl:c.members.length≤100000000):AC Tryz.prog 204 [I i,.ag (eM m),.bp 0 0 0] [.c 37 (eC none c)] (fun v bs=>v=B (pMem c i m)∧bs=[.c 37 (eC none c)]):=by
 have h:=all2_ac 205 m (pNode m.node) (c.members.take i) (by simp;omega) (fun k hk=>mc2_ac k _ m);refine AC.N Tryz.func204 Tryz.ntmps204 ?_;intro X hρ hmks;refine NX ?_
 repeat' (first|((first|refine wA5 ?_|(refine GA ?_;refine ⟨fun hg=>?_,fun hg=>?_⟩)|refine aC6 h ?_)<;>(try refine NX ?_))|refine wT4 ?_|with_reducible intro Q' hQ'|(refine GC ?_;refine ⟨fun hc=>?_,fun hc=>?_⟩)|simp only [la])
 all_goals (refine RetQ.B [(0,0)] ?_;(try dsimp only [resV,List.getD_cons_succ,List.getD_cons_zero]);((refine ⟨?_,rfl⟩;simp at *;simp [pMem, *];try omega)))
theorem aC7 {p G G':Prop} (c:p) (K:G') (h:p→G'→G:=by (intro c kz;(with_reducible apply AP.k_any);exact AP.CB [(0,1)] 0 c kz)):G:=h c K
theorem mayConfig_ac (c:Config) (hl:c.members.length≤100000000):AC Tryz.prog 152 [.ag (eC none c)] [] (fun v bs=>v=B (mayCfg c)∧bs=[]):=by
 have h:=all1_ac 204 c (pMem c) c.members hl (fun k hk=>mc1_ac c k _ (by omega) hl);refine AC.N Tryz.func152 Tryz.ntmps152 ?_;intro X hρ hmks;refine NX ?_
 repeat' (first|((first|refine wA5 ?_|(refine GA ?_;refine ⟨fun hg=>?_,fun hg=>?_⟩)|refine aC7 h ?_)<;>(try refine NX ?_))|refine wT4 ?_|with_reducible intro Q' hQ'|(refine GC ?_;refine ⟨fun hc=>?_,fun hc=>?_⟩)|simp only [la])
 all_goals (refine RetQ.B [] ?_;(try dsimp only [resV,List.getD_cons_succ,List.getD_cons_zero]);((refine ⟨?_,rfl⟩;simp at *;simp [mayCfg, *];try omega)))
def putR (st:Bool×List UInt8) (e:Entry):Bool×List UInt8:=addS (addS (addS (addS (addS st (intS e.stamp)) (intS e.client)) (intS e.id)) (putS e.body.length 4)) e.body
def putM (st:Bool×List UInt8) (m:Member):Bool×List UInt8:=addS (addS (addS st (intS m.node)) (intS m.since)) (flagS m.whole)
def putC (st:Bool×List UInt8) (c:Config):Bool×List UInt8:=c.members.foldl putM (addS (addS st (intS c.epoch)) (intS c.members.length))
theorem putRest_ac (st:Bool×List UInt8) (e:Entry) (hst:st.2.length≤65536) (hb:e.body.length≤100000000) :
 AC Tryz.prog 199 [.bp 0 0 0,.ag (eE none e)] [wB st] (fun v bs=>v=.bp 0 0 0∧bs=[wB (putR st e)]):=by
 have h1:=addS_len (st:=st) (b:=intS e.stamp) hst;have h2:=addS_len (b:=intS e.client) h1;have h3:=addS_len (b:=intS e.id) h2;refine AC.N Tryz.func199 Tryz.ntmps199 ?_;intro X hρ hmks;refine NX ?_
 repeat' (first|((first|refine wA4 ?_)<;>(try refine NX ?_))|refine wT4 ?_|with_reducible intro Q' hQ'|(refine GC ?_;refine ⟨fun hc=>?_,fun hc=>?_⟩)|simp only [la])
 refine cp_drawI (fun zs zb=>⟨setT zs.t [(5,cond (zb.getD 0 false) (.bp 0 0 0) (.tu [])),(6,cond (zb.getD 1 false) (.bp 2 1 1) (.tu [])),(7,cond (zb.getD 2 false) (I e.stamp) (.tu [])),(8,cond (zb.getD 3 false) (.bp 0 0 0) (.tu [])),(9,cond (zb.getD 4 false) (.bp 2 1 2) (.tu [])),(10,cond (zb.getD 5 false) (I e.client) (.tu [])),(11,cond (zb.getD 6 false) (.bp 0 0 0) (.tu [])),(12,cond (zb.getD 7 false) (.bp 2 1 3) (.tu [])),(13,cond (zb.getD 8 false) (I e.id) (.tu [])),(14,cond (zb.getD 9 false) (.bp 0 0 0) (.tu [])),(15,cond (zb.getD 10 false) (.bp 2 1 4) (.tu [])),(16,cond (zb.getD 11 false) (bs none e.body) (.tu [])),(17,cond (zb.getD 12 false) (.bp 0 0 0) (.tu [])),(4,cond (zb.getD 13 false) (.bp 0 0 0) (.sc (.pointer none)))],((zs.b.set 0 (cond (zb.getD 12 false) (⟨0,.c tW [B true,B (putR st e).1,.hd 1 5]⟩) (cond (zb.getD 9 false) (⟨0,.c tW [B true,B (addS (addS (addS st (intS e.stamp)) (intS e.client)) (intS e.id)).1,.hd 1 4]⟩) (cond (zb.getD 6 false) (⟨0,.c tW [B true,B (addS (addS st (intS e.stamp)) (intS e.client)).1,.hd 1 3]⟩) (cond (zb.getD 3 false) (⟨0,.c tW [B true,B (addS st (intS e.stamp)).1,.hd 1 2]⟩) (zs.b.getD 0 ⟨0,.x⟩)))))).set 1 (cond (zb.getD 12 false) (⟨5,.r tU 1 ((putR st e).2.map eB)⟩) (cond (zb.getD 9 false) (⟨4,.r tU 1 ((addS (addS (addS st (intS e.stamp)) (intS e.client)) (intS e.id)).2.map eB)⟩) (cond (zb.getD 6 false) (⟨3,.r tU 1 ((addS (addS st (intS e.stamp)) (intS e.client)).2.map eB)⟩) (cond (zb.getD 3 false) (⟨2,.r tU 1 ((addS st (intS e.stamp)).2.map eB)⟩) (zs.b.getD 1 ⟨0,.x⟩))))))⟩) (by kernel_rfl) (by kernel_rfl) (by kernel_rfl) ?_ ?_
 rotate_left
 simp only [cond_true,cond_false,setT,List.set_cons_succ,List.set_cons_zero,List.getD_cons_succ,List.getD_cons_zero,List.set_cons_succ,List.length_cons,List.length_nil,List.replicate_succ,List.replicate_zero,Nat.reduceAdd]
 rotate_left
 ·intro b hb' hcl;obtain ⟨l0,b0,rfl,hb0⟩:=len_cons hb';obtain ⟨l1,b1,rfl,hb1⟩:=len_cons hb0;obtain ⟨l2,b2,rfl,hb2⟩:=len_cons hb1;obtain ⟨l3,b3,rfl,hb3⟩:=len_cons hb2;obtain ⟨l4,b4,rfl,hb4⟩:=len_cons hb3;obtain ⟨l5,b5,rfl,hb5⟩:=len_cons hb4;obtain ⟨l6,b6,rfl,hb6⟩:=len_cons hb5;obtain ⟨l7,b7,rfl,hb7⟩:=len_cons hb6;obtain ⟨l8,b8,rfl,hb8⟩:=len_cons hb7;obtain ⟨l9,b9,rfl,hb9⟩:=len_cons hb8;obtain ⟨l10,b10,rfl,hb10⟩:=len_cons hb9;obtain ⟨l11,b11,rfl,hb11⟩:=len_cons hb10;obtain ⟨l12,b12,rfl,hb12⟩:=len_cons hb11;obtain ⟨l13,b13,rfl,hb13⟩:=len_cons hb12;obtain rfl:=List.length_eq_zero_iff.1 hb13;clear hb' hb0 hb1 hb2 hb3 hb4 hb5 hb6 hb7 hb8 hb9 hb10 hb11 hb12 hb13
  ·simp only [closedB,depsOk,Region.binds,List.toList_toArray,List.all_cons,List.all_nil,List.getD_cons_succ,List.getD_cons_zero,Bool.not_true,Bool.not_false,Bool.true_or,Bool.false_or,Bool.and_true,Bool.true_and,Bool.or_true,Bool.and_false,Bool.or_false,Bool.false_and,Bool.and_eq_true,Bool.or_eq_true,Bool.not_eq_true'] at hcl;simp only [StepsP];refine ⟨?_,?_,?_,?_,?_,?_,?_,?_,?_,?_,?_,?_,?_,?_,trivial⟩
   all_goals
    intro h1 h2;simp [depsOk,Region.binds] at h1 h2;subst h1
    (repeat (obtain ⟨rfl,h2⟩:=h2))
    (try subst h2)
    all_goals (try (cases l3<;>(try (exfalso;grind only))))
    all_goals (try (cases l6<;>(try (exfalso;grind only))))
    all_goals (try (cases l9<;>(try (exfalso;grind only))))
    all_goals (try (cases l12<;>(try (exfalso;grind only))))
    all_goals clear hcl
    all_goals refine CD ?_
    all_goals (first|((with_reducible apply AP.k_any);first|(refine AP.sm false rfl ?_ ?_;focus (exact PF0))|(refine AP.el rfl ?_ (by (first|(refine ⟨?_,?_⟩;assumption;rfl)|((try clear kz);exact ⟨mapAt (by (first|omega|(simp;omega)|(simp;done)|assumption)),rfl⟩)|exact ⟨rfl,rfl⟩)) ?_;focus (exact PF0)))|((with_reducible apply AP.k_any);refine AP.CB [(0,0)] 0 (wint_ac st e.stamp hst) ?_)|((with_reducible apply AP.k_any);refine AP.CB [(0,0)] 0 (wint_ac _ e.client h1) ?_)|((with_reducible apply AP.k_any);refine AP.CB [(0,0)] 0 (wint_ac _ e.id h2) ?_)|((with_reducible apply AP.k_any);refine AP.CB [(0,0)] 0 (wbytes_ac _ e.body h3 hb) ?_))
    all_goals (try refine NX ?_)
    all_goals (refine AP.nil ?_;exact ⟨rfl,rfl⟩)
 repeat' (first|((first|refine wA4 ?_)<;>(try refine NX ?_))|refine wT4 ?_|with_reducible intro Q' hQ'|(refine GC ?_;refine ⟨fun hc=>?_,fun hc=>?_⟩)|simp only [la])
 (exact RetQ.A [(0,0)] (by exact ⟨rfl,rfl⟩))
/-! of each kind: whether it may be; without its fields -/
def mayAsk (m:Msg):Bool:=clientS m.client m.id && decide (m.body.length≤20000)
def mayHave (m:Msg):Bool:=decide (0≤m.done) && decide (m.done≤m.have_)
def mayWhole (m:Msg):Bool:=decide (1≤m.since)
def bareAsk (m:Msg):Msg:={ m with client:=0,id:=0,body:=[] }
def bareHave (m:Msg):Msg:={ m with have_:=0,done:=0 }
def bareCfg (m:Msg):Msg:={ m with cfg:=cfg0 }
def bareWhole (m:Msg):Msg:={ m with since:=0 }
def bareEnt (m:Msg):Msg:={ m with upto:=0,frm:=0,entries:=[] }
theorem kmay1_ac (m:Msg):AC Tryz.prog 140 [.ag (eG m)] [] (fun v bs=>v=B (mayAsk m)∧bs=[]):=by
 refine AC.N Tryz.func140 Tryz.ntmps140 ?_;intro X hρ hmks;refine NX ?_
 repeat' (first|((first|refine wA5 ?_|(refine GA ?_;refine ⟨fun hg=>?_,fun hg=>?_⟩)|refine aC1 (client_ac _ _) ?_)<;>(try refine NX ?_))|refine wT4 ?_|with_reducible intro Q' hQ'|(refine GC ?_;refine ⟨fun hc=>?_,fun hc=>?_⟩)|simp only [la])
 all_goals (refine RetQ.B [] ?_;(try dsimp only [resV,List.getD_cons_succ,List.getD_cons_zero]);((refine ⟨?_,rfl⟩;simp at *;simp [mayAsk, *];try omega)))
theorem kmay5_ac (m:Msg):AC Tryz.prog 147 [.ag (eG m)] [] (fun v bs=>v=B (mayHave m)∧bs=[]):=by
 refine AC.N Tryz.func147 Tryz.ntmps147 ?_;intro X hρ hmks;refine NX ?_
 repeat' (first|((first|refine wA5 ?_|(refine GA ?_;refine ⟨fun hg=>?_,fun hg=>?_⟩))<;>(try refine NX ?_))|refine wT4 ?_|with_reducible intro Q' hQ'|(refine GC ?_;refine ⟨fun hc=>?_,fun hc=>?_⟩)|simp only [la])
 all_goals (refine RetQ.B [] ?_;(try dsimp only [resV,List.getD_cons_succ,List.getD_cons_zero]);((refine ⟨?_,rfl⟩;simp at *;simp [mayHave, *];try omega)))
theorem kmay9_ac (m:Msg) (hl:m.cfg.members.length≤100000000):AC Tryz.prog 151 [.ag (eG m)] [] (fun v bs=>v=B (mayCfg m.cfg)∧bs=[]):=by
 refine AC.N Tryz.func151 Tryz.ntmps151 ?_;intro X hρ hmks;refine NX ?_
 repeat' (first|((first|refine wA4 ?_|refine aC1 (mayConfig_ac m.cfg hl) ?_)<;>(try refine NX ?_))|refine wT4 ?_|with_reducible intro Q' hQ'|(refine GC ?_;refine ⟨fun hc=>?_,fun hc=>?_⟩)|simp only [la])
 all_goals (refine RetQ.B [] ?_;(try dsimp only [resV,List.getD_cons_succ,List.getD_cons_zero]);(exact ⟨rfl,rfl⟩))
theorem kmay13_ac (m:Msg):AC Tryz.prog 158 [.ag (eG m)] [] (fun v bs=>v=B (mayWhole m)∧bs=[]):=by
 refine AC.N Tryz.func158 Tryz.ntmps158 ?_;intro X hρ hmks;refine NX ?_
 repeat' (first|((first|refine wA4 ?_)<;>(try refine NX ?_))|refine wT4 ?_|with_reducible intro Q' hQ'|(refine GC ?_;refine ⟨fun hc=>?_,fun hc=>?_⟩)|simp only [la])
 all_goals (refine RetQ.B [] ?_;(try dsimp only [resV,List.getD_cons_succ,List.getD_cons_zero]);((refine ⟨?_,rfl⟩;simp at *;simp [mayWhole, *];try omega)))
theorem kbare2_ac (m:Msg):AC Tryz.prog 142 [.ag (eG m)] [] (fun v bs=>v=.ag (eG (bareAsk m))∧bs=[]):=by
 refine AC.N Tryz.func142 Tryz.ntmps142 ?_;intro X hρ hmks;refine NX ?_
 repeat' (first|((first|refine wA4 ?_)<;>(try refine NX ?_))|refine wT4 ?_|with_reducible intro Q' hQ'|(refine GC ?_;refine ⟨fun hc=>?_,fun hc=>?_⟩)|simp only [la])
 (exact RetQ.A [] (by exact ⟨rfl,rfl⟩))
theorem kbare6_ac (m:Msg):AC Tryz.prog 148 [.ag (eG m)] [] (fun v bs=>v=.ag (eG (bareHave m))∧bs=[]):=by
 refine AC.N Tryz.func148 Tryz.ntmps148 ?_;intro X hρ hmks;refine NX ?_
 repeat' (first|((first|refine wA4 ?_)<;>(try refine NX ?_))|refine wT4 ?_|with_reducible intro Q' hQ'|(refine GC ?_;refine ⟨fun hc=>?_,fun hc=>?_⟩)|simp only [la])
 (exact RetQ.A [] (by exact ⟨rfl,rfl⟩))
theorem kbare10_ac (m:Msg):AC Tryz.prog 153 [.ag (eG m)] [] (fun v bs=>v=.ag (eG (bareCfg m))∧bs=[]):=by
 refine AC.N Tryz.func153 Tryz.ntmps153 ?_;intro X hρ hmks;refine NX ?_
 repeat' (first|((first|refine wA4 ?_)<;>(try refine NX ?_))|refine wT4 ?_|with_reducible intro Q' hQ'|(refine GC ?_;refine ⟨fun hc=>?_,fun hc=>?_⟩)|simp only [la])
 (exact RetQ.A [] (by exact ⟨rfl,rfl⟩))
theorem kbare14_ac (m:Msg):AC Tryz.prog 159 [.ag (eG m)] [] (fun v bs=>v=.ag (eG (bareWhole m))∧bs=[]):=by
 refine AC.N Tryz.func159 Tryz.ntmps159 ?_;intro X hρ hmks;refine NX ?_
 repeat' (first|((first|refine wA4 ?_)<;>(try refine NX ?_))|refine wT4 ?_|with_reducible intro Q' hQ'|(refine GC ?_;refine ⟨fun hc=>?_,fun hc=>?_⟩)|simp only [la])
 (exact RetQ.A [] (by exact ⟨rfl,rfl⟩))
theorem ebare2_ac (m:Msg):AC Tryz.prog 197 [.ag (eG m)] [] (fun v bs=>v=.ag (eG (bareEnt m))∧bs=[]):=by
 refine AC.N Tryz.func197 Tryz.ntmps197 ?_;intro X hρ hmks;refine NX ?_
 repeat' (first|((first|refine wA4 ?_)<;>(try refine NX ?_))|refine wT4 ?_|with_reducible intro Q' hQ'|(refine GC ?_;refine ⟨fun hc=>?_,fun hc=>?_⟩)|simp only [la])
 (exact RetQ.A [] (by exact ⟨rfl,rfl⟩))
def noneM (m:Msg):Bool:=m.client == 0 && m.id == 0 && m.body.isEmpty && m.upto == 0 && m.frm == 0 && m.entries.isEmpty && m.have_ == 0 && m.done == 0 && m.cfg.epoch == 0 && m.cfg.members.isEmpty && m.since == 0
theorem none_ac (m:Msg):AC Tryz.prog 91 [.ag (eG m)] [] (fun v bs=>v=B (noneM m)∧bs=[]):=by
 refine AC.N Tryz.func91 Tryz.ntmps91 ?_;intro X hρ hmks;refine NX ?_
 repeat' (first|((first|refine wA5 ?_|(refine GA ?_;refine ⟨fun hg=>?_,fun hg=>?_⟩))<;>(try refine NX ?_))|refine wT4 ?_|with_reducible intro Q' hQ'|(refine GC ?_;refine ⟨fun hc=>?_,fun hc=>?_⟩)|simp only [la])
 all_goals (refine RetQ.B [] ?_;(try dsimp only [resV,List.getD_cons_succ,List.getD_cons_zero]);((refine ⟨?_,rfl⟩;simp at *;simp [noneM, *])))
/-! the table of kinds -/
abbrev kAsk:List AV:=[fnv 140,fnv 142,fnv 143,fnv 145]
abbrev kHave:List AV:=[fnv 147,fnv 148,fnv 149,fnv 150]
abbrev kCfg:List AV:=[fnv 151,fnv 153,fnv 154,fnv 156]
abbrev kWhole:List AV:=[fnv 158,fnv 159,fnv 160,fnv 161]
abbrev kEnt:List AV:=[fnv 193,fnv 197,fnv 198,fnv 200]
abbrev kNo:List AV:=[.sc .nilFunc,.sc .nilFunc,.sc .nilFunc,.sc .nilFunc]
theorem entries_ac:AC Tryz.prog 146 [] [] (fun v bs=>v=.ag kEnt∧bs=[]):=by
 refine AC.N Tryz.func146 Tryz.ntmps146 ?_;intro X hρ hmks;refine NX ?_
 repeat' (first|((first|refine wA4 ?_)<;>(try refine NX ?_))|refine wT4 ?_|with_reducible intro Q' hQ'|(refine GC ?_;refine ⟨fun hc=>?_,fun hc=>?_⟩)|simp only [la])
 (exact RetQ.A [] (by exact ⟨rfl,rfl⟩))
theorem kinds_ac:AC Tryz.prog 90 [] [] (fun v bs=>v=.ag (kNo ++ (kAsk ++ (kEnt ++ (kHave ++ (kCfg ++ (kWhole ++ kAsk))))))∧bs=[]):=by
 refine AC.N Tryz.func90 Tryz.ntmps90 ?_;intro X hρ hmks;refine NX ?_
 repeat' (first|((first|refine wA4 ?_|refine aC1 entries_ac ?_|refine wD6 ?_|refine dC1 entries_ac ?_)<;>(try refine NX ?_))|refine wT5 ?_|with_reducible intro Q' hQ'|(refine GC ?_;refine ⟨fun hc=>?_,fun hc=>?_⟩)|simp only [la])
 (exact RetQ.A [] (by exact ⟨rfl,rfl⟩))
theorem putM_len {st:Bool×List UInt8} {m:Member} (h:st.2.length≤65536):(putM st m).2.length≤65536:=addS_len (addS_len (addS_len h))
theorem putConfig_ac (st:Bool×List UInt8) (c:Config) (hst:st.2.length≤65536) (hl:c.members.length≤100000000) :
 AC Tryz.prog 155 [.bp 0 0 0,.ag (eC none c)] [wB st] (fun v bs=>v=.bp 0 0 0∧bs=[wB (putC st c)]):=by
 have h1:=addS_len (st:=st) (b:=intS c.epoch) hst;have h2:=addS_len (b:=intS c.members.length) h1;refine AC.N Tryz.func155 Tryz.ntmps155 ?_;intro X hρ hmks;refine NX ?_
 repeat' (first|((first|refine wA4 ?_|((with_reducible apply AP.k_any);first|refine AP.E ?_|refine AP.T ?_))<;>(try refine NX ?_))|refine wT4 ?_|with_reducible intro Q' hQ'|(refine GC ?_;refine ⟨fun hc=>?_,fun hc=>?_⟩)|simp only [la])
 refine cp_drawI (fun zs zb=>⟨setT zs.t [(7,cond (zb.getD 0 false) (.bp 0 0 0) (.tu [])),(8,cond (zb.getD 1 false) (.bp 2 1 0) (.tu [])),(9,cond (zb.getD 2 false) (I c.epoch) (.tu [])),(10,cond (zb.getD 3 false) (.bp 0 0 0) (.tu [])),(11,cond (zb.getD 4 false) (.bp 2 1 1) (.tu [])),(12,cond (zb.getD 5 false) (ms none c.members) (.tu [])),(13,cond (zb.getD 6 false) (I c.members.length) (.tu [])),(14,cond (zb.getD 7 false) (.bp 0 0 0) (.tu []))],((zs.b.set 0 (cond (zb.getD 7 false) (⟨0,.c tW [B true,B (addS (addS st (intS c.epoch)) (intS c.members.length)).1,.hd 1 3]⟩) (cond (zb.getD 3 false) (⟨0,.c tW [B true,B (addS st (intS c.epoch)).1,.hd 1 2]⟩) (zs.b.getD 0 ⟨0,.x⟩)))).set 1 (cond (zb.getD 7 false) (⟨3,.r tU 1 ((addS (addS st (intS c.epoch)) (intS c.members.length)).2.map eB)⟩) (cond (zb.getD 3 false) (⟨2,.r tU 1 ((addS st (intS c.epoch)).2.map eB)⟩) (zs.b.getD 1 ⟨0,.x⟩))))⟩) (by kernel_rfl) (by kernel_rfl) (by kernel_rfl) ?_ ?_
 rotate_left
 simp only [cond_true,cond_false,setT,List.set_cons_succ,List.set_cons_zero,List.getD_cons_succ,List.getD_cons_zero,List.set_cons_succ,List.length_cons,List.length_nil,List.replicate_succ,List.replicate_zero,Nat.reduceAdd]
 rotate_left
 ·intro b hb' hcl;obtain ⟨l0,b0,rfl,hb0⟩:=len_cons hb';obtain ⟨l1,b1,rfl,hb1⟩:=len_cons hb0;obtain ⟨l2,b2,rfl,hb2⟩:=len_cons hb1;obtain ⟨l3,b3,rfl,hb3⟩:=len_cons hb2;obtain ⟨l4,b4,rfl,hb4⟩:=len_cons hb3;obtain ⟨l5,b5,rfl,hb5⟩:=len_cons hb4;obtain ⟨l6,b6,rfl,hb6⟩:=len_cons hb5;obtain ⟨l7,b7,rfl,hb7⟩:=len_cons hb6;obtain rfl:=List.length_eq_zero_iff.1 hb7;clear hb' hb0 hb1 hb2 hb3 hb4 hb5 hb6 hb7
  ·simp only [closedB,depsOk,Region.binds,List.toList_toArray,List.all_cons,List.all_nil,List.getD_cons_succ,List.getD_cons_zero,Bool.not_true,Bool.not_false,Bool.true_or,Bool.false_or,Bool.and_true,Bool.true_and,Bool.or_true,Bool.and_false,Bool.or_false,Bool.false_and,Bool.and_eq_true,Bool.or_eq_true,Bool.not_eq_true'] at hcl;simp only [StepsP];refine ⟨?_,?_,?_,?_,?_,?_,?_,?_,trivial⟩
   all_goals
    intro h1 h2;simp [depsOk,Region.binds] at h1 h2;subst h1
    (repeat (obtain ⟨rfl,h2⟩:=h2))
    (try subst h2)
    all_goals (try (cases l3<;>(try (exfalso;grind only))))
    all_goals (try (cases l7<;>(try (exfalso;grind only))))
    all_goals clear hcl
    all_goals refine CD ?_
    all_goals (first|((with_reducible apply AP.k_any);first|(refine AP.sm false rfl ?_ ?_;focus (exact PF0))|(refine AP.el rfl ?_ (by (first|(refine ⟨?_,?_⟩;assumption;rfl)|((try clear kz);exact ⟨mapAt (by (first|omega|(simp;omega)|(simp;done)|assumption)),rfl⟩)|exact ⟨rfl,rfl⟩)) ?_;focus (exact PF0)))|((with_reducible apply AP.k_any);refine AP.CB [(0,0)] 0 (wint_ac st c.epoch hst) ?_)|((with_reducible apply AP.k_any);refine AP.CB [(0,0)] 0 (wint_ac _ _ h1) ?_))
    all_goals (try refine NX ?_)
    all_goals (refine AP.nil ?_;exact ⟨rfl,rfl⟩)
 repeat' (first|((first|refine wA4 ?_|((with_reducible apply AP.k_any);first|refine AP.E ?_|refine AP.T ?_))<;>(try refine NX ?_))|refine wT4 ?_|with_reducible intro Q' hQ'|(refine GC ?_;refine ⟨fun hc=>?_,fun hc=>?_⟩)|simp only [la])
 refine CP.gh gh_slot ?_;refine NX ?_;refine cp_loopS [6,18,19,20,21,22,23,24,25,26,27,28,29,30,31,32] (fun a:Nat×(Bool×List UInt8)×Nat×Nat=>c.members.length - a.1) (fun a=>a.1≤c.members.length∧a.2.1=(c.members.take a.1).foldl putM (addS (addS st (intS c.epoch)) (intS c.members.length))∧a.2.1.2.length≤65536) (fun a=>[(18,I a.1)]) (fun a=>[(0,⟨0,.c tW [B true,B a.2.1.1,.hd 1 a.2.2.1]⟩),(1,⟨a.2.2.1,.r tU 1 (a.2.1.2.map eB)⟩),(3,⟨a.2.2.2,.x⟩)]) (0,_,3,0) ⟨Nat.zero_le _,rfl,h2⟩ (by exact Gh.W) ?_;rintro ⟨k,sk,u,um⟩ ⟨hk,hs,ha⟩;simp only [setT,deT,setB,List.set_cons_succ,List.set_cons_zero];dsimp only at hk hs ha
 by_cases hlt:k < c.members.length
 ·have hw:IntKind.i64.wrap ((k:Int) + 1)=((k + 1:Nat):Int):=wrap_i64 (by omega) (by omega);have g1:=addS_len (b:=intS c.members[k].node) ha;have g2:=addS_len (b:=intS c.members[k].since) g1
  repeat' (first|((first|refine wA4 ?_|((with_reducible apply AP.k_any);first|refine AP.E ?_|refine AP.T ?_))<;>(try refine NX ?_))|refine wT4 ?_|with_reducible intro Q' hQ'|(refine GC ?_;refine ⟨fun hc=>?_,fun hc=>?_⟩)|simp only [la])
  ·refine cp_drawI (fun zs zb=>⟨setT zs.t [(22,cond (zb.getD 0 false) (.bp 0 0 0) (.de)),(23,cond (zb.getD 1 false) (.bp 3 (um + 1) 0) (.de)),(24,cond (zb.getD 2 false) (I c.members[k].node) (.de)),(25,cond (zb.getD 3 false) (.bp 0 0 0) (.de)),(26,cond (zb.getD 4 false) (.bp 3 (um + 1) 1) (.de)),(27,cond (zb.getD 5 false) (I c.members[k].since) (.de)),(28,cond (zb.getD 6 false) (.bp 0 0 0) (.de)),(29,cond (zb.getD 7 false) (.bp 3 (um + 1) 2) (.de)),(30,cond (zb.getD 8 false) (B c.members[k].whole) (.de)),(31,cond (zb.getD 9 false) (.bp 0 0 0) (.de))],((zs.b.set 0 (cond (zb.getD 9 false) (⟨0,.c tW [B true,B (putM sk c.members[k]).1,.hd 1 (u + 1 + 1 + 1)]⟩) (cond (zb.getD 6 false) (⟨0,.c tW [B true,B (addS (addS sk (intS c.members[k].node)) (intS c.members[k].since)).1,.hd 1 (u + 1 + 1)]⟩) (cond (zb.getD 3 false) (⟨0,.c tW [B true,B (addS sk (intS c.members[k].node)).1,.hd 1 (u + 1)]⟩) (zs.b.getD 0 ⟨0,.x⟩))))).set 1 (cond (zb.getD 9 false) (⟨(u + 1 + 1 + 1),.r tU 1 ((putM sk c.members[k]).2.map eB)⟩) (cond (zb.getD 6 false) (⟨(u + 1 + 1),.r tU 1 ((addS (addS sk (intS c.members[k].node)) (intS c.members[k].since)).2.map eB)⟩) (cond (zb.getD 3 false) (⟨(u + 1),.r tU 1 ((addS sk (intS c.members[k].node)).2.map eB)⟩) (zs.b.getD 1 ⟨0,.x⟩)))))⟩) (by kernel_rfl) (by kernel_rfl) (by kernel_rfl) ?_ ?_
   rotate_left
   simp only [cond_true,cond_false,setT,List.set_cons_succ,List.set_cons_zero,List.getD_cons_succ,List.getD_cons_zero,List.set_cons_succ,List.length_cons,List.length_nil,List.replicate_succ,List.replicate_zero,Nat.reduceAdd]
   rotate_left
   ·intro b hb' hcl;obtain ⟨l0,b0,rfl,hb0⟩:=len_cons hb';obtain ⟨l1,b1,rfl,hb1⟩:=len_cons hb0;obtain ⟨l2,b2,rfl,hb2⟩:=len_cons hb1;obtain ⟨l3,b3,rfl,hb3⟩:=len_cons hb2;obtain ⟨l4,b4,rfl,hb4⟩:=len_cons hb3;obtain ⟨l5,b5,rfl,hb5⟩:=len_cons hb4;obtain ⟨l6,b6,rfl,hb6⟩:=len_cons hb5;obtain ⟨l7,b7,rfl,hb7⟩:=len_cons hb6;obtain ⟨l8,b8,rfl,hb8⟩:=len_cons hb7;obtain ⟨l9,b9,rfl,hb9⟩:=len_cons hb8;obtain rfl:=List.length_eq_zero_iff.1 hb9;clear hb' hb0 hb1 hb2 hb3 hb4 hb5 hb6 hb7 hb8 hb9
    ·simp only [closedB,depsOk,Region.binds,List.toList_toArray,List.all_cons,List.all_nil,List.getD_cons_succ,List.getD_cons_zero,Bool.not_true,Bool.not_false,Bool.true_or,Bool.false_or,Bool.and_true,Bool.true_and,Bool.or_true,Bool.and_false,Bool.or_false,Bool.false_and,Bool.and_eq_true,Bool.or_eq_true,Bool.not_eq_true'] at hcl;simp only [StepsP];refine ⟨?_,?_,?_,?_,?_,?_,?_,?_,?_,?_,trivial⟩
     all_goals
      intro h1 h2;simp [depsOk,Region.binds] at h1 h2;subst h1
      (repeat (obtain ⟨rfl,h2⟩:=h2))
      (try subst h2)
      all_goals (try (cases l3<;>(try (exfalso;grind only))))
      all_goals (try (cases l6<;>(try (exfalso;grind only))))
      all_goals (try (cases l9<;>(try (exfalso;grind only))))
      all_goals clear hcl
      all_goals refine CD ?_
      all_goals (first|((with_reducible apply AP.k_any);first|(refine AP.sm false rfl ?_ ?_;focus (exact PF0))|(refine AP.el rfl ?_ (by (first|(refine ⟨?_,?_⟩;assumption;rfl)|((try clear kz);exact ⟨mapAt (by (first|omega|(simp;omega)|(simp;done)|assumption)),rfl⟩)|exact ⟨rfl,rfl⟩)) ?_;focus (exact PF0)))|((with_reducible apply AP.k_any);refine AP.CB [(0,0)] 0 (wint_ac sk _ ha) ?_)|((with_reducible apply AP.k_any);refine AP.CB [(0,0)] 0 (wint_ac _ _ g1) ?_)|((with_reducible apply AP.k_any);refine AP.CB [(0,0)] 0 (wflag_ac _ _ g2) ?_))
      all_goals (try refine NX ?_)
      all_goals (refine AP.nil ?_;exact ⟨rfl,rfl⟩)
   repeat' (first|((first|refine wA4 ?_|((with_reducible apply AP.k_any);first|refine AP.E ?_|refine AP.T ?_))<;>(try refine NX ?_))|refine wT4 ?_|with_reducible intro Q' hQ'|(refine GC ?_;refine ⟨fun hc=>?_,fun hc=>?_⟩)|simp only [la])
   simp only [hw];exact ⟨(k + 1,putM sk c.members[k],u + 1 + 1 + 1,um + 1),by (dsimp only;omega),⟨by (dsimp only;omega),by (dsimp only;rw [List.take_succ_eq_append_getElem hlt,List.foldl_append,←hs];rfl),putM_len ha⟩,by exact Gh.W⟩
  ·exfalso;simp at *;omega
 ·obtain rfl:k=c.members.length:=by omega
  rw [List.take_length] at hs;have hs':sk=putC st c:=hs;rw [←hs']
  repeat' (first|((first|refine wA4 ?_|((with_reducible apply AP.k_any);first|refine AP.E ?_|refine AP.T ?_))<;>(try refine NX ?_))|refine wT4 ?_|with_reducible intro Q' hQ'|(refine GC ?_;refine ⟨fun hc=>?_,fun hc=>?_⟩)|simp only [la])
  all_goals first
   | (exfalso;simp at *;done)
   | (exfalso;simp at *;omega)
   | (exact RetQ.A [(0,0)] (by exact ⟨rfl,rfl⟩))
def allGE (p:Nat→Entry→Bool):Nat→List Entry→Bool
 | _,[]=>true
 | k,m :: l=>p k m && allGE p (k + 1) l
theorem all3_ac (f:Nat) (m:Msg) (p:Nat→Entry→Bool) (l:List Entry) (hl:l.length≤100000000) (hf:∀ (i:Nat) (h:i < l.length),AC Tryz.prog f [I i,.ag (eE none l[i]),.bp 0 0 0] [.c tMsg (eG m)] (fun v bs=>v=B (p i l[i])∧bs=[.c tMsg (eG m)])) :
 AC Tryz.prog 194 [es none none l,.fn f [.bp 0 0 0]] [.c tMsg (eG m)] (fun v bs=>v=B (allGE p 0 l)∧bs=[.c tMsg (eG m)]):=by
 refine AC.N Tryz.func194 Tryz.ntmps194 ?_;intro X hρ hmks;refine NX ?_
 repeat' (first|((first|refine wA4 ?_|((with_reducible apply AP.k_any);first|refine AP.E ?_|refine AP.T ?_))<;>(try refine NX ?_))|refine wT4 ?_|with_reducible intro Q' hQ'|(refine GC ?_;refine ⟨fun hc=>?_,fun hc=>?_⟩)|simp only [la])
 refine CP.gh gh_slot ?_;refine NX ?_;refine cp_loopS [4,5,6,9,10,11,12,13,14,15,16,17,18,19] (fun a:Nat×Nat=>l.length - a.1) (fun a=>a.1≤l.length∧allGE p 0 l=allGE p a.1 (l.drop a.1)) (fun a=>[(9,I a.1)]) (fun a=>[(1,⟨a.2,.x⟩)]) (0,0) ⟨Nat.zero_le _,rfl⟩ (by exact Gh.W) ?_;rintro ⟨k,u⟩ ⟨hk,he⟩;simp only [setT,deT,setB,List.set_cons_succ,List.set_cons_zero];dsimp only at hk he
 by_cases hlt:k < l.length
 ·have hw:IntKind.i64.wrap ((k:Int) + 1)=((k + 1:Nat):Int):=wrap_i64 (by omega) (by omega);rw [List.drop_eq_getElem_cons hlt,allGE] at he
  repeat' (first|((first|refine wA4 ?_|((with_reducible apply AP.k_any);first|refine AP.E ?_|refine AP.T ?_)|((with_reducible apply AP.k_any);refine ap_callB 0 [(0,0)] rfl rfl (fn:=f) rfl (hf k hlt) (by (repeat' (first|exact PasC.nil|apply PasC.nil|apply PasC.cons|apply PasV.leaf rfl|apply PasV.nl|apply PasV.bp rfl|apply PasV.vp rfl|apply PasV.pz|exact VsM.nil|apply VsM.cons rfl|apply PasV.lend rfl rfl rfl|apply PasV.lend rfl rfl (ro_B _)|apply PasV.lend rfl rfl (ro_M _)|apply PasV.lend rfl rfl (ro_E _ _)|apply PasV.lend rfl rfl (ro_I _)|apply PasV.lend rfl rfl (by (simp only [rn,List.map_cons,List.map_nil];first|done|rfl))|apply PasV.mv rfl|apply PasV.hk rfl|apply PasV.ag|apply PasV.fn|exact PasV.fs|apply PasV.any|exact rfl))) (by (repeat' (first|exact ClsC.nil|apply ClsC.nl|apply ClsC.leaf rfl|apply ClsC.hd rfl|apply ClsC.ob rfl|apply ClsC.mo rfl|apply ClsC.mp rfl|apply ClsC.hp rfl|exact Out.nil|apply Out.cons rfl|apply Out.r rfl|apply Out.f rfl|apply ClsC.fn|apply ClsC.fz rfl (ro_B _)|apply ClsC.fz rfl (ro_M _)|apply ClsC.fz rfl (ro_E _ _)|apply ClsC.fz rfl rfl))) rfl (by (repeat' (first|exact Bk.nil|apply Bk.cF rfl rfl|(apply Bk.cN rfl;(try refine NX ?_);apply BkN.mk rfl)|apply Bk.r rfl))) (by (repeat' (first|exact RnV.leaf rfl|exact RnV.fs|exact RnC.nil|apply RnC.cons|apply RnV.ag|apply RnV.tu|apply RnV.fn|exact RnV.bp rfl))) rfl ?_))<;>(try refine NX ?_))|refine wT4 ?_|with_reducible intro Q' hQ'|(refine GC ?_;refine ⟨fun hc=>?_,fun hc=>?_⟩)|simp only [la])
  ·(refine RetQ.B [(0,0)] ?_;(try dsimp only [resV,List.getD_cons_succ,List.getD_cons_zero]);((have h:p k l[k]=false:=by simpa using hc);exact ⟨by rw [he,h,Bool.false_and],rfl⟩))
  ·simp only [hw];exact ⟨(k + 1,u + 1),by (dsimp only;omega),⟨by (dsimp only;omega),by (have h:p k l[k]=true:=by simpa using hc);rw [he,h,Bool.true_and]⟩,by exact Gh.W⟩
  ·exfalso;simp at *;omega
 ·rw [List.drop_of_length_le (by omega),allGE] at he
  repeat' (first|((first|refine wA4 ?_|((with_reducible apply AP.k_any);first|refine AP.E ?_|refine AP.T ?_))<;>(try refine NX ?_))|refine wT4 ?_|with_reducible intro Q' hQ'|(refine GC ?_;refine ⟨fun hc=>?_,fun hc=>?_⟩)|simp only [la])
  all_goals first
   | (exfalso;simp at *;done)
   | (exfalso;simp at *;omega)
   | (refine RetQ.B [(0,0)] ?_;(try dsimp only [resV,List.getD_cons_succ,List.getD_cons_zero]);(exact ⟨by rw [he],rfl⟩))
def pEnt (m:Msg):Nat→Entry→Bool:=fun i e=>mayE e && IntKind.i64.wrap (e.pos - m.frm) == (i:Int)
def mayEnt (m:Msg):Bool:=decide (0≤m.upto) && decide (1≤m.frm) && decide (m.entries.length≤4) && allGE (pEnt m) 0 m.entries
theorem ent11_ac (i:Nat) (e:Entry) (m:Msg):AC Tryz.prog 195 [I i,.ag (eE none e),.bp 0 0 0] [.c tMsg (eG m)] (fun v bs=>v=B (pEnt m i e)∧bs=[.c tMsg (eG m)]):=by
 refine AC.N Tryz.func195 Tryz.ntmps195 ?_;intro X hρ hmks;refine NX ?_
 repeat' (first|((first|refine wA5 ?_|(refine GA ?_;refine ⟨fun hg=>?_,fun hg=>?_⟩)|refine aC1 (mayEntry_ac _) ?_)<;>(try refine NX ?_))|refine wT4 ?_|with_reducible intro Q' hQ'|(refine GC ?_;refine ⟨fun hc=>?_,fun hc=>?_⟩)|simp only [la])
 all_goals (refine RetQ.B [(0,0)] ?_;(try dsimp only [resV,List.getD_cons_succ,List.getD_cons_zero]);((refine ⟨?_,rfl⟩;simp at *;simp [pEnt, *])))
theorem emay1_ac (m:Msg) (hl:m.entries.length≤100000000):AC Tryz.prog 193 [.ag (eG m)] [] (fun v bs=>v=B (mayEnt m)∧bs=[]):=by
 have h:=all3_ac 195 m (pEnt m) m.entries hl (fun i h=>ent11_ac i _ m);refine AC.N Tryz.func193 Tryz.ntmps193 ?_;intro X hρ hmks;refine NX ?_
 repeat' (first|((first|refine wA5 ?_|(refine GA ?_;refine ⟨fun hg=>?_,fun hg=>?_⟩)|refine aC7 h ?_)<;>(try refine NX ?_))|refine wT4 ?_|with_reducible intro Q' hQ'|(refine GC ?_;refine ⟨fun hc=>?_,fun hc=>?_⟩)|simp only [la])
 all_goals (refine RetQ.B [] ?_;(try dsimp only [resV,List.getD_cons_succ,List.getD_cons_zero]);((refine ⟨?_,rfl⟩;simp at *;simp [mayEnt, *];try omega)))
theorem of1_ac (m:Msg) (h:m.kind.toNat=1):AC Tryz.prog 52 [.ag (eG m)] [] (fun v bs=>v=.tu [.ag kAsk,B true]∧bs=[]):=by
 have e:(m.kind.toNat:Int)=1:=by omega
 refine AC.N Tryz.func52 Tryz.ntmps52 ?_;intro X hρ hmks;refine NX ?_;simp only [e]
 repeat' (first|((first|refine wA5 ?_|((with_reducible apply AP.k_any);first|refine AP.E ?_|refine AP.T ?_)|(refine GA ?_;refine ⟨fun hg=>?_,fun hg=>?_⟩)|refine aC1 kinds_ac ?_)<;>(try refine NX ?_))|refine wT4 ?_|with_reducible intro Q' hQ'|(refine GC ?_;refine ⟨fun hc=>?_,fun hc=>?_⟩)|simp only [la])
 all_goals first|(exact RetQ.A [] (by exact ⟨rfl,rfl⟩))|(exfalso;simp at *;done)
theorem of2_ac (m:Msg) (h:m.kind.toNat=2):AC Tryz.prog 52 [.ag (eG m)] [] (fun v bs=>v=.tu [.ag kEnt,B true]∧bs=[]):=by
 have e:(m.kind.toNat:Int)=2:=by omega
 refine AC.N Tryz.func52 Tryz.ntmps52 ?_;intro X hρ hmks;refine NX ?_;simp only [e]
 repeat' (first|((first|refine wA5 ?_|((with_reducible apply AP.k_any);first|refine AP.E ?_|refine AP.T ?_)|(refine GA ?_;refine ⟨fun hg=>?_,fun hg=>?_⟩)|refine aC1 kinds_ac ?_)<;>(try refine NX ?_))|refine wT4 ?_|with_reducible intro Q' hQ'|(refine GC ?_;refine ⟨fun hc=>?_,fun hc=>?_⟩)|simp only [la])
 all_goals first|(exact RetQ.A [] (by exact ⟨rfl,rfl⟩))|(exfalso;simp at *;done)
theorem of3_ac (m:Msg) (h:m.kind.toNat=3):AC Tryz.prog 52 [.ag (eG m)] [] (fun v bs=>v=.tu [.ag kHave,B true]∧bs=[]):=by
 have e:(m.kind.toNat:Int)=3:=by omega
 refine AC.N Tryz.func52 Tryz.ntmps52 ?_;intro X hρ hmks;refine NX ?_;simp only [e]
 repeat' (first|((first|refine wA5 ?_|((with_reducible apply AP.k_any);first|refine AP.E ?_|refine AP.T ?_)|(refine GA ?_;refine ⟨fun hg=>?_,fun hg=>?_⟩)|refine aC1 kinds_ac ?_)<;>(try refine NX ?_))|refine wT4 ?_|with_reducible intro Q' hQ'|(refine GC ?_;refine ⟨fun hc=>?_,fun hc=>?_⟩)|simp only [la])
 all_goals first|(exact RetQ.A [] (by exact ⟨rfl,rfl⟩))|(exfalso;simp at *;done)
theorem of4_ac (m:Msg) (h:m.kind.toNat=4):AC Tryz.prog 52 [.ag (eG m)] [] (fun v bs=>v=.tu [.ag kCfg,B true]∧bs=[]):=by
 have e:(m.kind.toNat:Int)=4:=by omega
 refine AC.N Tryz.func52 Tryz.ntmps52 ?_;intro X hρ hmks;refine NX ?_;simp only [e]
 repeat' (first|((first|refine wA5 ?_|((with_reducible apply AP.k_any);first|refine AP.E ?_|refine AP.T ?_)|(refine GA ?_;refine ⟨fun hg=>?_,fun hg=>?_⟩)|refine aC1 kinds_ac ?_)<;>(try refine NX ?_))|refine wT4 ?_|with_reducible intro Q' hQ'|(refine GC ?_;refine ⟨fun hc=>?_,fun hc=>?_⟩)|simp only [la])
 all_goals first|(exact RetQ.A [] (by exact ⟨rfl,rfl⟩))|(exfalso;simp at *;done)
theorem of5_ac (m:Msg) (h:m.kind.toNat=5):AC Tryz.prog 52 [.ag (eG m)] [] (fun v bs=>v=.tu [.ag kWhole,B true]∧bs=[]):=by
 have e:(m.kind.toNat:Int)=5:=by omega
 refine AC.N Tryz.func52 Tryz.ntmps52 ?_;intro X hρ hmks;refine NX ?_;simp only [e]
 repeat' (first|((first|refine wA5 ?_|((with_reducible apply AP.k_any);first|refine AP.E ?_|refine AP.T ?_)|(refine GA ?_;refine ⟨fun hg=>?_,fun hg=>?_⟩)|refine aC1 kinds_ac ?_)<;>(try refine NX ?_))|refine wT4 ?_|with_reducible intro Q' hQ'|(refine GC ?_;refine ⟨fun hc=>?_,fun hc=>?_⟩)|simp only [la])
 all_goals first|(exact RetQ.A [] (by exact ⟨rfl,rfl⟩))|(exfalso;simp at *;done)
theorem of6_ac (m:Msg) (h:m.kind.toNat=6):AC Tryz.prog 52 [.ag (eG m)] [] (fun v bs=>v=.tu [.ag kAsk,B true]∧bs=[]):=by
 have e:(m.kind.toNat:Int)=6:=by omega
 refine AC.N Tryz.func52 Tryz.ntmps52 ?_;intro X hρ hmks;refine NX ?_;simp only [e]
 repeat' (first|((first|refine wA5 ?_|((with_reducible apply AP.k_any);first|refine AP.E ?_|refine AP.T ?_)|(refine GA ?_;refine ⟨fun hg=>?_,fun hg=>?_⟩)|refine aC1 kinds_ac ?_)<;>(try refine NX ?_))|refine wT4 ?_|with_reducible intro Q' hQ'|(refine GC ?_;refine ⟨fun hc=>?_,fun hc=>?_⟩)|simp only [la])
 all_goals first|(exact RetQ.A [] (by exact ⟨rfl,rfl⟩))|(exfalso;simp at *;done)
theorem ofNo_ac (m:Msg) (h:m.kind.toNat=0∨7≤m.kind.toNat):AC Tryz.prog 52 [.ag (eG m)] [] (fun v bs=>v=.tu [.ag kNo,B false]∧bs=[]):=by
 have hw:IntKind.i64.wrap (m.kind.toNat:Int)=(m.kind.toNat:Int):=wrap_i64 (by omega) (by have:=m.kind.toNat_lt;omega);refine AC.N Tryz.func52 Tryz.ntmps52 ?_;intro X hρ hmks;refine NX ?_
 repeat' (first|((first|refine wA5 ?_|((with_reducible apply AP.k_any);first|refine AP.E ?_|refine AP.T ?_)|(refine GA ?_;refine ⟨fun hg=>?_,fun hg=>?_⟩)|refine aC1 kinds_ac ?_)<;>(try refine NX ?_))|refine wT4 ?_|with_reducible intro Q' hQ'|(refine GC ?_;refine ⟨fun hc=>?_,fun hc=>?_⟩)|simp only [la])
 all_goals first|(exact RetQ.A [] (by exact ⟨rfl,rfl⟩))|(exfalso;simp [hw] at *;omega)
def mayM (m:Msg):Bool:=match m.kind.toNat with
 | 1=>mayAsk m && noneM (bareAsk m)
 | 2=>mayEnt m && noneM (bareEnt m)
 | 3=>mayHave m && noneM (bareHave m)
 | 4=>mayCfg m.cfg && noneM (bareCfg m)
 | 5=>mayWhole m && noneM (bareWhole m)
 | 6=>mayAsk m && noneM (bareAsk m)
 | _=>false
theorem kind_cases (k:UInt8):k.toNat=1∨k.toNat=2∨k.toNat=3∨k.toNat=4∨k.toNat=5∨k.toNat=6∨(k.toNat=0∨7≤k.toNat):=by omega
theorem mayG_ac (f1 f2 f3 f4:Nat) (m mb:Msg) (x:Bool) (hof:AC Tryz.prog 52 [.ag (eG m)] [] (fun v bs=>v=.tu [.ag [fnv f1,fnv f2,fnv f3,fnv f4],B true]∧bs=[]))
 (hmay:AC Tryz.prog f1 [.ag (eG m)] [] (fun v bs=>v=B x∧bs=[])) (hbare:AC Tryz.prog f2 [.ag (eG m)] [] (fun v bs=>v=.ag (eG mb)∧bs=[])) :
 AC Tryz.prog 53 [.ag (eG m)] [] (fun v bs=>v=B (x && noneM mb)∧bs=[]):=by
 refine AC.N Tryz.func53 Tryz.ntmps53 ?_;intro X hρ hmks;refine NX ?_
 repeat' (first|((first|refine wA5 ?_|(refine GA ?_;refine ⟨fun hg=>?_,fun hg=>?_⟩)|refine aC1 hof ?_|((with_reducible apply AP.k_any);refine ap_callX rfl rfl (fn:=f1) rfl (hmay) (by (repeat' (first|exact PasC.nil|apply PasC.nil|apply PasC.cons|apply PasV.leaf rfl|apply PasV.nl|apply PasV.bp rfl|apply PasV.vp rfl|apply PasV.pz|exact VsM.nil|apply VsM.cons rfl|apply PasV.lend rfl rfl rfl|apply PasV.lend rfl rfl (ro_B _)|apply PasV.lend rfl rfl (ro_M _)|apply PasV.lend rfl rfl (ro_E _ _)|apply PasV.lend rfl rfl (ro_I _)|apply PasV.lend rfl rfl (by (simp only [rn,List.map_cons,List.map_nil];first|done|rfl))|apply PasV.mv rfl|apply PasV.hk rfl|apply PasV.ag|apply PasV.fn|exact PasV.fs|apply PasV.any|exact rfl))) rfl rfl ?_)|((with_reducible apply AP.k_any);refine ap_callX rfl rfl (fn:=f2) rfl (hbare) (by (repeat' (first|exact PasC.nil|apply PasC.nil|apply PasC.cons|apply PasV.leaf rfl|apply PasV.nl|apply PasV.bp rfl|apply PasV.vp rfl|apply PasV.pz|exact VsM.nil|apply VsM.cons rfl|apply PasV.lend rfl rfl rfl|apply PasV.lend rfl rfl (ro_B _)|apply PasV.lend rfl rfl (ro_M _)|apply PasV.lend rfl rfl (ro_E _ _)|apply PasV.lend rfl rfl (ro_I _)|apply PasV.lend rfl rfl (by (simp only [rn,List.map_cons,List.map_nil];first|done|rfl))|apply PasV.mv rfl|apply PasV.hk rfl|apply PasV.ag|apply PasV.fn|exact PasV.fs|apply PasV.any|exact rfl))) rfl rfl ?_)|refine aC1 (none_ac mb) ?_)<;>(try refine NX ?_))|refine wT4 ?_|with_reducible intro Q' hQ'|(refine GC ?_;refine ⟨fun hc=>?_,fun hc=>?_⟩)|simp only [la])
 all_goals (refine RetQ.B [] ?_;(try dsimp only [resV,List.getD_cons_succ,List.getD_cons_zero]);((refine ⟨?_,rfl⟩;simp at *;simp [*])))
theorem may_no (m:Msg) (h:m.kind.toNat=0∨7≤m.kind.toNat):mayM m=false:=by
 unfold mayM;split<;>first|omega|rfl
theorem mayMsg_ac (m:Msg) (h1:m.entries.length≤100000000) (h2:m.cfg.members.length≤100000000):AC Tryz.prog 53 [.ag (eG m)] [] (fun v bs=>v=B (mayM m)∧bs=[]):=by
 rcases kind_cases m.kind with h|h|h|h|h|h|h
 ·have:=mayG_ac _ _ _ _ m _ _ (of1_ac m h) (kmay1_ac m) (kbare2_ac m)
  rwa [show mayM m=(mayAsk m && noneM (bareAsk m)) from by simp only [mayM,h]]
 ·have:=mayG_ac _ _ _ _ m _ _ (of2_ac m h) (emay1_ac m h1) (ebare2_ac m)
  rwa [show mayM m=(mayEnt m && noneM (bareEnt m)) from by simp only [mayM,h]]
 ·have:=mayG_ac _ _ _ _ m _ _ (of3_ac m h) (kmay5_ac m) (kbare6_ac m)
  rwa [show mayM m=(mayHave m && noneM (bareHave m)) from by simp only [mayM,h]]
 ·have:=mayG_ac _ _ _ _ m _ _ (of4_ac m h) (kmay9_ac m h2) (kbare10_ac m)
  rwa [show mayM m=(mayCfg m.cfg && noneM (bareCfg m)) from by simp only [mayM,h]]
 ·have:=mayG_ac _ _ _ _ m _ _ (of5_ac m h) (kmay13_ac m) (kbare14_ac m)
  rwa [show mayM m=(mayWhole m && noneM (bareWhole m)) from by simp only [mayM,h]]
 ·have:=mayG_ac _ _ _ _ m _ _ (of6_ac m h) (kmay1_ac m) (kbare2_ac m)
  rwa [show mayM m=(mayAsk m && noneM (bareAsk m)) from by simp only [mayM,h]]
 ·rw [may_no m h];refine AC.N Tryz.func53 Tryz.ntmps53 ?_;intro X hρ hmks;refine NX ?_
  repeat' (first|((first|refine wA5 ?_|(refine GA ?_;refine ⟨fun hg=>?_,fun hg=>?_⟩)|refine aC1 (ofNo_ac m h) ?_)<;>(try refine NX ?_))|refine wT4 ?_|with_reducible intro Q' hQ'|(refine GC ?_;refine ⟨fun hc=>?_,fun hc=>?_⟩)|simp only [la])
  all_goals (refine RetQ.B [] ?_;(try dsimp only [resV,List.getD_cons_succ,List.getD_cons_zero]);(exact ⟨rfl,rfl⟩))
/-! written down -/
def putAsk (st:Bool×List UInt8) (m:Msg):Bool×List UInt8:=addS (addS (addS (addS st (intS m.client)) (intS m.id)) (putS m.body.length 4)) m.body
def putHave (st:Bool×List UInt8) (m:Msg):Bool×List UInt8:=addS (addS st (intS m.have_)) (intS m.done)
def putWhole (st:Bool×List UInt8) (m:Msg):Bool×List UInt8:=addS st (intS m.since)
def putEnt (st:Bool×List UInt8) (m:Msg):Bool×List UInt8:=m.entries.foldl putR (addS (addS (addS st (intS m.upto)) (intS m.frm)) (intS m.entries.length))
theorem dC5 {p G G':Prop} (c:p) (K:G') (h:p→G'→G:=by (intro c kz;(with_reducible apply DW.k_any);refine DW.known rfl ?_;(with_reducible first|apply DW.sx 2);(iterate 2 (focus (simp only [ft,nm,Nat.reduceAdd,Nat.reduceBEq,List.getElem?_cons_zero,List.getElem?_cons_succ];exact rfl)));(focus (intro X V;simp only [ft,nm,Nat.reduceAdd,Nat.reduceBEq];(try (refine AP.Y ?_;dsimp only));((with_reducible apply AP.k_any);refine AP.CB [(0,0)] 0 c ?_);(try refine NX ?_);refine AP.nil ?_;(first|refine ⟨trivial,rfl,?_⟩|refine ⟨rfl,rfl,?_⟩);(repeat' (first|exact Mg.nil|apply Mg.keep rfl|apply Mg.take rfl));done));(focus (refine Exists.intro (fun _=>0) ?_;apply Exists.intro;(repeat' (first|exact Mg.nil|apply Mg.keep rfl|apply Mg.take rfl));done));(iterate 2 (focus (exact rfl)));exact kz)):G:=h c K
theorem kput3_ac (st:Bool×List UInt8) (m:Msg) (hst:st.2.length≤65536) (hb:m.body.length≤100000000) :
 AC Tryz.prog 143 [.bp 0 0 0,.ag (eG m)] [wB st] (fun v bs=>v=.tu []∧bs=[wB (putAsk st m)]):=by
 have h1:=addS_len (st:=st) (b:=intS m.client) hst;have h2:=addS_len (b:=intS m.id) h1;refine AC.N Tryz.func143 Tryz.ntmps143 ?_;intro X hρ hmks;refine NX ?_
 repeat' (first|((first|refine wA4 ?_)<;>(try refine NX ?_))|refine wT4 ?_|with_reducible intro Q' hQ'|(refine GC ?_;refine ⟨fun hc=>?_,fun hc=>?_⟩)|simp only [la])
 refine CP.gh gh_slot ?_;refine NX ?_
 repeat' (first|((first|refine wA4 ?_|refine aC2 (wint_ac st m.client hst) ?_|refine aC2 (wint_ac _ m.id h1) ?_|refine aC2 (wbytes_ac _ m.body h2 hb) ?_|refine wD6 ?_|refine dC5 (wint_ac st m.client hst) ?_|refine dC5 (wint_ac _ m.id h1) ?_|refine dC5 (wbytes_ac _ m.body h2 hb) ?_)<;>(try refine NX ?_))|refine wT5 ?_|with_reducible intro Q' hQ'|(refine GC ?_;refine ⟨fun hc=>?_,fun hc=>?_⟩)|simp only [la])
 (refine RetQ.B [(0,0)] ?_;(try dsimp only [resV,List.getD_cons_succ,List.getD_cons_zero]);(exact ⟨rfl,rfl⟩))
theorem kput7_ac (st:Bool×List UInt8) (m:Msg) (hst:st.2.length≤65536) :
 AC Tryz.prog 149 [.bp 0 0 0,.ag (eG m)] [wB st] (fun v bs=>v=.tu []∧bs=[wB (putHave st m)]):=by
 have h1:=addS_len (st:=st) (b:=intS m.have_) hst;refine AC.N Tryz.func149 Tryz.ntmps149 ?_;intro X hρ hmks;refine NX ?_
 repeat' (first|((first|refine wA4 ?_|refine aC2 (wint_ac st m.have_ hst) ?_|refine aC2 (wint_ac _ m.done h1) ?_|refine wD6 ?_|refine dC5 (wint_ac st m.have_ hst) ?_|refine dC5 (wint_ac _ m.done h1) ?_)<;>(try refine NX ?_))|refine wT5 ?_|with_reducible intro Q' hQ'|(refine GC ?_;refine ⟨fun hc=>?_,fun hc=>?_⟩)|simp only [la])
 (refine RetQ.B [(0,0)] ?_;(try dsimp only [resV,List.getD_cons_succ,List.getD_cons_zero]);(exact ⟨rfl,rfl⟩))
theorem kput11_ac (st:Bool×List UInt8) (m:Msg) (hst:st.2.length≤65536) (hl:m.cfg.members.length≤100000000) :
 AC Tryz.prog 154 [.bp 0 0 0,.ag (eG m)] [wB st] (fun v bs=>v=.tu []∧bs=[wB (putC st m.cfg)]):=by
 refine AC.N Tryz.func154 Tryz.ntmps154 ?_;intro X hρ hmks;refine NX ?_
 repeat' (first|((first|refine wA4 ?_|refine aC2 (putConfig_ac st m.cfg hst hl) ?_)<;>(try refine NX ?_))|refine wT4 ?_|with_reducible intro Q' hQ'|(refine GC ?_;refine ⟨fun hc=>?_,fun hc=>?_⟩)|simp only [la])
 (refine RetQ.B [(0,0)] ?_;(try dsimp only [resV,List.getD_cons_succ,List.getD_cons_zero]);(exact ⟨rfl,rfl⟩))
theorem kput15_ac (st:Bool×List UInt8) (m:Msg) (hst:st.2.length≤65536) :
 AC Tryz.prog 160 [.bp 0 0 0,.ag (eG m)] [wB st] (fun v bs=>v=.tu []∧bs=[wB (putWhole st m)]):=by
 refine AC.N Tryz.func160 Tryz.ntmps160 ?_;intro X hρ hmks;refine NX ?_
 repeat' (first|((first|refine wA4 ?_|refine aC2 (wint_ac st m.since hst) ?_)<;>(try refine NX ?_))|refine wT4 ?_|with_reducible intro Q' hQ'|(refine GC ?_;refine ⟨fun hc=>?_,fun hc=>?_⟩)|simp only [la])
 (refine RetQ.B [(0,0)] ?_;(try dsimp only [resV,List.getD_cons_succ,List.getD_cons_zero]);(exact ⟨rfl,rfl⟩))
theorem foldR_len:∀ {l:List Entry} {st:Bool×List UInt8},st.2.length≤65536→(l.foldl putR st).2.length≤65536
 | [],_,h=>h
 | e :: l,st,h=>foldR_len (l:=l) (addS_len (addS_len (addS_len (addS_len (addS_len h)))))
theorem eput3_ac (st:Bool×List UInt8) (m:Msg) (hst:st.2.length≤65536) (hl:m.entries.length≤100000000) (hb:∀ e∈m.entries,e.body.length≤100000000) :
 AC Tryz.prog 198 [.bp 0 0 0,.ag (eG m)] [wB st] (fun v bs=>v=.tu []∧bs=[wB (putEnt st m)]):=by
 have h1:=addS_len (st:=st) (b:=intS m.upto) hst;have h2:=addS_len (b:=intS m.frm) h1;have h3:=addS_len (b:=intS m.entries.length) h2;refine AC.N Tryz.func198 Tryz.ntmps198 ?_;intro X hρ hmks;refine NX ?_
 repeat' (first|((first|refine wA4 ?_|((with_reducible apply AP.k_any);first|refine AP.E ?_|refine AP.T ?_)|refine aC2 (wint_ac st m.upto hst) ?_|refine aC2 (wint_ac _ m.frm h1) ?_|refine aC2 (wint_ac _ (m.entries.length:Int) h2) ?_|refine wD6 ?_|refine dC5 (wint_ac st m.upto hst) ?_|refine dC5 (wint_ac _ m.frm h1) ?_|refine dC5 (wint_ac _ (m.entries.length:Int) h2) ?_)<;>(try refine NX ?_))|refine wT5 ?_|with_reducible intro Q' hQ'|(refine GC ?_;refine ⟨fun hc=>?_,fun hc=>?_⟩)|simp only [la])
 refine CP.gh gh_slot ?_;refine NX ?_;generalize hS:addS (addS (addS st (intS m.upto)) (intS m.frm)) (intS m.entries.length)=S0 at h3;have hput:putEnt st m=m.entries.foldl putR S0:=by rw [←hS];rfl
 rw [hput];refine cp_loopS [5,20,21,22,23,24,25,26,27] (fun a:Nat×Nat×Nat=>m.entries.length - a.1) (fun a=>a.1≤m.entries.length) (fun a=>[(20,I a.1),(18,es none none m.entries),(19,I m.entries.length)]) (fun a=>[(0,⟨0,.c tW [B true,B ((m.entries.take a.1).foldl putR S0).1,.hd 1 a.2.1]⟩),(1,⟨a.2.1,.r tU 1 (((m.entries.take a.1).foldl putR S0).2.map eB)⟩),(3,⟨a.2.2,.x⟩)]) (0,4,0) (Nat.zero_le _) (by exact Gh.W) ?_;rintro ⟨k,u,v⟩ hk;simp only [setT,deT,setB,List.set_cons_succ,List.set_cons_zero];dsimp only at hk
 by_cases hlt:k < m.entries.length
 ·have hw:IntKind.i64.wrap ((k:Int) + 1)=((k + 1:Nat):Int):=wrap_i64 (by omega) (by omega);have hs:(m.entries.take (k + 1)).foldl putR S0=putR ((m.entries.take k).foldl putR S0) m.entries[k]:=by rw [List.take_succ_eq_append_getElem hlt,List.foldl_append];rfl
  have hput:=putRest_ac ((m.entries.take k).foldl putR S0) m.entries[k] (foldR_len h3) (hb _ (List.getElem_mem hlt));rw [←hs] at hput
  repeat' (first|((first|refine wA4 ?_|((with_reducible apply AP.k_any);first|refine AP.E ?_|refine AP.T ?_)|refine aC2 hput ?_|refine wD6 ?_|refine dC5 hput ?_)<;>(try refine NX ?_))|refine wT5 ?_|with_reducible intro Q' hQ'|(refine GC ?_;refine ⟨fun hc=>?_,fun hc=>?_⟩)|simp only [la])
  ·simp only [hw];exact ⟨(k + 1,u + 1,v + 1),by (dsimp only;omega),by (dsimp only;omega),by exact Gh.W⟩
  ·exfalso;simp at *;omega
 ·obtain rfl:k=m.entries.length:=by omega
  rw [List.take_length]
  repeat' (first|((first|refine wA4 ?_|((with_reducible apply AP.k_any);first|refine AP.E ?_|refine AP.T ?_)|refine wD6 ?_)<;>(try refine NX ?_))|refine wT5 ?_|with_reducible intro Q' hQ'|(refine GC ?_;refine ⟨fun hc=>?_,fun hc=>?_⟩)|simp only [la])
  all_goals first
   | (exfalso;simp at *;done)
   | (exfalso;simp at *;omega)
   | (refine RetQ.B [(0,0)] ?_;(try dsimp only [resV,List.getD_cons_succ,List.getD_cons_zero]);(exact ⟨rfl,rfl⟩))
def restF (e:Entry):List UInt8:=numS [e.stamp,e.client,e.id] ++ (putS e.body.length 4 ++ e.body)
def memF (m:Member):List UInt8:=numS [m.node,m.since] ++ flagS m.whole
def configF (c:Config):List UInt8:=numS [c.epoch,c.members.length] ++ (c.members.map memF).flatten
theorem flagS_length (b:Bool):(flagS b).length=1:=by cases b<;>rfl
theorem memF_length (m:Member):(memF m).length=17:=by simp [memF,numS_length,flagS_length]
theorem restF_length (e:Entry):(restF e).length=28 + e.body.length:=by simp [restF,numS_length,putS_length];omega
theorem configF_length (c:Config):(configF c).length=16 + 17 * c.members.length:=by
 have:∀ l:List Member,((l.map memF).flatten).length=17 * l.length:=by
  intro l
  induction l with
  | nil=>rfl
  | cons a l ih=>simp only [List.map_cons,List.flatten_cons,List.length_append,memF_length,List.length_cons,ih];omega
 simp [configF,numS_length,this]
theorem drest_ac (e:Entry) (hb:e.body.length≤10000000):AC Tryz.prog 104 [.ag (eE none e)] [] (fun v bs'=>v=bs (some tU) (restF e)∧bs'=[]):=by
 have h1:=numbers_ac [e.stamp,e.client,e.id] (by simp);have h2:=(dbytes_ac e.body hb).ro (r2:=bs none (putS e.body.length 4 ++ e.body)) (by simp only [AV.ro,ro_B]);have h3:=cat_ac (numS [e.stamp,e.client,e.id]) (putS e.body.length 4 ++ e.body) (by simp [numS_length]) (by simp [putS_length];omega);refine AC.N Tryz.func104 Tryz.ntmps104 ?_;intro X hρ hmks;refine NX ?_
 repeat' (first|((first|refine wA4 ?_)<;>(try refine NX ?_))|refine wT4 ?_|with_reducible intro Q' hQ'|(refine GC ?_;refine ⟨fun hc=>?_,fun hc=>?_⟩)|simp only [la])
 refine CP.gh gh_slot ?_;refine NX ?_
 refine CP.gh gh_slot ?_;refine NX ?_
 refine CP.gh gh_slot ?_;refine NX ?_
 refine cp_drawI (fun zs zb=>⟨setT zs.t [(3,cond (zb.getD 0 false) (.bp 0 1 1) (.tu [])),(4,cond (zb.getD 1 false) (I e.stamp) (.tu [])),(5,cond (zb.getD 2 false) (.bp 0 1 2) (.tu [])),(6,cond (zb.getD 3 false) (I e.client) (.tu [])),(7,cond (zb.getD 4 false) (.bp 0 1 3) (.tu [])),(8,cond (zb.getD 5 false) (I e.id) (.tu [])),(9,cond (zb.getD 6 false) (.hd 1 1) (.tu [])),(10,cond (zb.getD 7 false) (.hd 2 1) (.tu [])),(11,cond (zb.getD 8 false) (.bp 0 1 4) (.tu [])),(12,cond (zb.getD 9 false) (bs none e.body) (.tu [])),(13,cond (zb.getD 10 false) (bs none (putS e.body.length 4 ++ e.body)) (.tu [])),(14,cond (zb.getD 11 false) (.hd 3 1) (.tu [])),(2,cond (zb.getD 12 false) (.hd 3 1) (.sc (.slice none 0 0)))],(((zs.b.set 1 (cond (zb.getD 6 false) (⟨1,.r tI 1 [eI e.stamp,eI e.client,eI e.id]⟩) (zs.b.getD 1 ⟨0,.x⟩))).set 2 (cond (zb.getD 7 false) (⟨1,.r tU 1 ((numS [e.stamp,e.client,e.id]).map eB)⟩) (zs.b.getD 2 ⟨0,.x⟩))).set 3 (cond (zb.getD 11 false) (⟨1,.r tU 1 ((restF e).map eB)⟩) (zs.b.getD 3 ⟨0,.x⟩)))⟩) (by kernel_rfl) (by kernel_rfl) (by kernel_rfl) ?_ ?_
 rotate_left
 simp only [cond_true,cond_false,setT,List.set_cons_succ,List.set_cons_zero,List.getD_cons_succ,List.getD_cons_zero,List.set_cons_succ,List.length_cons,List.length_nil,List.replicate_succ,List.replicate_zero,Nat.reduceAdd]
 rotate_left
 ·intro b hb' hcl;obtain ⟨l0,b0,rfl,hb0⟩:=len_cons hb';obtain ⟨l1,b1,rfl,hb1⟩:=len_cons hb0;obtain ⟨l2,b2,rfl,hb2⟩:=len_cons hb1;obtain ⟨l3,b3,rfl,hb3⟩:=len_cons hb2;obtain ⟨l4,b4,rfl,hb4⟩:=len_cons hb3;obtain ⟨l5,b5,rfl,hb5⟩:=len_cons hb4;obtain ⟨l6,b6,rfl,hb6⟩:=len_cons hb5;obtain ⟨l7,b7,rfl,hb7⟩:=len_cons hb6;obtain ⟨l8,b8,rfl,hb8⟩:=len_cons hb7;obtain ⟨l9,b9,rfl,hb9⟩:=len_cons hb8;obtain ⟨l10,b10,rfl,hb10⟩:=len_cons hb9;obtain ⟨l11,b11,rfl,hb11⟩:=len_cons hb10;obtain ⟨l12,b12,rfl,hb12⟩:=len_cons hb11;obtain rfl:=List.length_eq_zero_iff.1 hb12;clear hb' hb0 hb1 hb2 hb3 hb4 hb5 hb6 hb7 hb8 hb9 hb10 hb11 hb12
  ·simp only [closedB,depsOk,Region.binds,List.toList_toArray,List.all_cons,List.all_nil,List.getD_cons_succ,List.getD_cons_zero,Bool.not_true,Bool.not_false,Bool.true_or,Bool.false_or,Bool.and_true,Bool.true_and,Bool.or_true,Bool.and_false,Bool.or_false,Bool.false_and,Bool.and_eq_true,Bool.or_eq_true,Bool.not_eq_true'] at hcl;simp only [StepsP];refine ⟨?_,?_,?_,?_,?_,?_,?_,?_,?_,?_,?_,?_,?_,trivial⟩
   all_goals
    intro h1 h2;simp [depsOk,Region.binds] at h1 h2;subst h1
    (repeat (obtain ⟨rfl,h2⟩:=h2))
    (try subst h2)
    all_goals (try (cases l6<;>(try (exfalso;grind only))))
    all_goals (try (cases l7<;>(try (exfalso;grind only))))
    all_goals (try (cases l11<;>(try (exfalso;grind only))))
    all_goals clear hcl
    all_goals refine CD ?_
    all_goals (first|((with_reducible apply AP.k_any);first|(refine AP.sm false rfl ?_ ?_;focus (exact PF0))|(refine AP.el rfl ?_ (by (first|(refine ⟨?_,?_⟩;assumption;rfl)|((try clear kz);exact ⟨mapAt (by (first|omega|(simp;omega)|(simp;done)|assumption)),rfl⟩)|exact ⟨rfl,rfl⟩)) ?_;focus (exact PF0)))|((with_reducible apply AP.k_any);refine AP.CL (h1) ?_)|((with_reducible apply AP.k_any);refine AP.C (h2) ?_)|((with_reducible apply AP.k_any);refine AP.CL (h3) ?_))
    all_goals (try refine NX ?_)
    all_goals (refine AP.nil ?_;exact ⟨rfl,rfl⟩)
 repeat' (first|((first|refine wA4 ?_)<;>(try refine NX ?_))|refine wT4 ?_|with_reducible intro Q' hQ'|(refine GC ?_;refine ⟨fun hc=>?_,fun hc=>?_⟩)|simp only [la])
 (refine RetQ.B [] ?_;(try dsimp only [resV,List.getD_cons_succ,List.getD_cons_zero]);(exact ⟨rfl,rfl⟩))
theorem aC8 {p G G':Prop} (c:p) (K:G') (h:p→G'→G:=by (intro c kz;(with_reducible apply AP.k_any);exact AP.CL c kz)):G:=h c K
theorem dconfig_ac (c:Config) (hl:c.members.length≤1000000):AC Tryz.prog 105 [.ag (eC none c)] [] (fun v bs'=>v=bs (some tU) (configF c)∧bs'=[]):=by
 have h1:=numbers_ac [c.epoch,c.members.length] (by simp);refine AC.N Tryz.func105 Tryz.ntmps105 ?_;intro X hρ hmks;refine NX ?_
 repeat' (first|((first|refine wA4 ?_|((with_reducible apply AP.k_any);first|refine AP.E ?_|refine AP.T ?_)|refine aC8 h1 ?_)<;>(try refine NX ?_))|refine wT4 ?_|with_reducible intro Q' hQ'|(refine GC ?_;refine ⟨fun hc=>?_,fun hc=>?_⟩)|simp only [la])
 refine CP.gh gh_slot ?_;refine NX ?_
 refine CP.gh gh_slot ?_;refine NX ?_
 have hf:∀ k,((c.members.take k).map memF).flatten.length=17 * (c.members.take k).length:=by
  intro k;generalize c.members.take k=l
  induction l with
  | nil=>rfl
  | cons a l ih=>simp only [List.map_cons,List.flatten_cons,List.length_append,memF_length,List.length_cons,ih];omega
 refine cp_loopS [3,4,5,13,14,15,16,17,18,19,20,21,22,23,24,25,26,27,28,29,30,31,32,33,34,35,36,37] (fun a:Nat×Nat×Nat×Nat×Nat=>c.members.length - a.1) (fun a=>a.1≤c.members.length) (fun a=>[(4,I a.1),(3,.hd 2 a.2.1)]) (fun a=>[(1,⟨a.2.2.1,.x⟩),(2,⟨a.2.1,.r tU 1 ((numS [c.epoch,c.members.length] ++ ((c.members.take a.1).map memF).flatten).map eB)⟩),(3,⟨a.2.2.2.1,.x⟩),(4,⟨a.2.2.2.2,.x⟩)]) (0,1,1,0,0) (Nat.zero_le _) (by (simp only [List.take_zero,List.map_nil,List.flatten_nil,List.append_nil]);exact Gh.W) ?_;rintro ⟨i,u,v1,v3,v4⟩ hi;simp only [setT,deT,setB,List.set_cons_succ,List.set_cons_zero];dsimp only at hi
 by_cases hlt:i < c.members.length
 ·have hw:IntKind.i64.wrap ((i:Int) + 1)=((i + 1:Nat):Int):=wrap_i64 (by omega) (by omega);have h2:=numbers_ac [c.members[i].node,c.members[i].since] (by simp);have h3:=(dflag_ac c.members[i].whole).ro (r2:=bs none (flagS c.members[i].whole)) (by simp only [AV.ro,ro_B])
  have hn:(numS [c.epoch,(c.members.length:Int)] ++ ((c.members.take i).map memF).flatten).length≤20000000:=by
   rw [List.length_append,hf,numS_length,List.length_take];simp;omega
  have hstep:numS [c.epoch,(c.members.length:Int)] ++ ((c.members.take (i + 1)).map memF).flatten=numS [c.epoch,(c.members.length:Int)] ++ ((c.members.take i).map memF).flatten ++ numS [c.members[i].node,c.members[i].since] ++ flagS c.members[i].whole:=by
   rw [List.take_succ_eq_append_getElem hlt,List.map_append,List.flatten_append];simp [memF]
  generalize hA:numS [c.epoch,(c.members.length:Int)] ++ ((c.members.take i).map memF).flatten=A at hn hstep ⊢
  have hl1:(A.map eB).length + ((numS [c.members[i].node,c.members[i].since]).map eB).length≤1000000000:=by
   rw [List.length_map,List.length_map,numS_length];simp;omega
  have hl2:(A.map eB ++ (numS [c.members[i].node,c.members[i].since]).map eB).length + ((flagS c.members[i].whole).map eB).length≤1000000000:=by
   rw [List.length_append,List.length_map,List.length_map,List.length_map,numS_length,flagS_length];simp;omega
  repeat' (first|((first|refine wA4 ?_|((with_reducible apply AP.k_any);first|refine AP.E ?_|refine AP.T ?_)|refine aC8 h2 ?_|refine aC1 h3 ?_)<;>(try refine NX ?_))|refine wT4 ?_|with_reducible intro Q' hQ'|(refine GC ?_;refine ⟨fun hc=>?_,fun hc=>?_⟩)|simp only [la])
  ·simp only [hw];refine ⟨(i + 1,u + 1 + 1,v1 + 1,v3 + 1,v4 + 1),by (dsimp only;omega),by (dsimp only;omega),?_⟩;dsimp only;rw [hstep,List.map_append,List.map_append];exact Gh.W
  ·exfalso;simp at *;omega
 ·obtain rfl:i=c.members.length:=by omega
  rw [List.take_length]
  repeat' (first|((first|refine wA4 ?_|((with_reducible apply AP.k_any);first|refine AP.E ?_|refine AP.T ?_))<;>(try refine NX ?_))|refine wT4 ?_|with_reducible intro Q' hQ'|(refine GC ?_;refine ⟨fun hc=>?_,fun hc=>?_⟩)|simp only [la])
  all_goals first
   | (exfalso;simp at *;done)
   | (exfalso;simp at *;omega)
   | (refine RetQ.B [] ?_;(try dsimp only [resV,List.getD_cons_succ,List.getD_cons_zero]);(exact ⟨rfl,rfl⟩))
theorem addS_ok {a b:List UInt8} (h:a.length + b.length≤65536):addS (false,a) b=(false,a ++ b):=by
 simp only [addS];rw [if_neg (by simp;omega)]
theorem putM_ok {a:List UInt8} {m:Member} (h:a.length + 17≤65536):putM (false,a) m=(false,a ++ memF m):=by
 unfold putM;rw [addS_ok (by rw [intS_length];omega),addS_ok (by rw [List.length_append,intS_length,intS_length];omega),addS_ok (by rw [List.length_append,List.length_append,intS_length,intS_length,flagS_length];omega)];simp [memF,numS]
theorem foldM_ok:∀ {l:List Member} {a:List UInt8},a.length + 17 * l.length≤65536→l.foldl putM (false,a)=(false,a ++ (l.map memF).flatten)
 | [],a,_=>by simp
 | m :: l,a,h=>by
  rw [List.length_cons] at h;rw [List.foldl_cons,putM_ok (by omega),foldM_ok (by rw [List.length_append,memF_length];omega)];simp
theorem putC_ok {a:List UInt8} {c:Config} (h:a.length + 16 + 17 * c.members.length≤65536):putC (false,a) c=(false,a ++ configF c):=by
 unfold putC;rw [addS_ok (by rw [intS_length];omega),addS_ok (by rw [List.length_append,intS_length,intS_length];omega),foldM_ok (by rw [List.length_append,List.length_append,intS_length,intS_length];omega)];simp [configF,numS]
theorem putR_ok {a:List UInt8} {e:Entry} (h:a.length + 28 + e.body.length≤65536):putR (false,a) e=(false,a ++ restF e):=by
 unfold putR;rw [addS_ok (by rw [intS_length];omega),addS_ok (by simp only [List.length_append,intS_length];omega),addS_ok (by simp only [List.length_append,intS_length];omega),addS_ok (by simp only [List.length_append,intS_length,putS_length];omega),addS_ok (by simp only [List.length_append,intS_length,putS_length];omega)];simp [restF,numS]
def putMsg (st:Bool×List UInt8) (m:Msg):Bool×List UInt8:=match m.kind.toNat with
 | 1=>putAsk st m
 | 2=>putEnt st m
 | 3=>putHave st m
 | 4=>putC st m.cfg
 | 5=>putWhole st m
 | 6=>putAsk st m
 | _=>st
def askF (m:Msg):List UInt8:=numS [m.client,m.id] ++ (putS m.body.length 4 ++ m.body)
def entF (m:Msg):List UInt8:=numS [m.upto,m.frm,m.entries.length] ++ (m.entries.map restF).flatten
def fieldF (m:Msg):List UInt8:=match m.kind.toNat with
 | 1=>askF m
 | 2=>entF m
 | 3=>numS [m.have_,m.done]
 | 4=>configF m.cfg
 | 5=>numS [m.since]
 | 6=>askF m
 | _=>[]
def formM (m:Msg):List UInt8:=m.kind :: fieldF m
theorem foldR_ok:∀ {l:List Entry} {a:List UInt8},(∀ e∈l,e.body.length≤1024)→a.length + 2000 * l.length≤65536→l.foldl putR (false,a)=(false,a ++ (l.map restF).flatten)
 | [],a,_,_=>by simp
 | m :: l,a,hb,h=>by
  rw [List.length_cons] at h;have:=hb m (by simp);rw [List.foldl_cons,putR_ok (by omega),foldR_ok (fun e he=>hb e (by simp [he])) (by rw [List.length_append,restF_length];omega)];simp
theorem allGE_all {p:Nat→Entry→Bool}:∀ {l:List Entry} {k:Nat},allGE p k l=true→∀ (i:Nat) (e:Entry),l[i]? = some e→p (k + i) e=true
 | [],_,_,_,_,h=>by simp at h
 | x :: l,k,h,0,e,he=>by
  simp only [allGE,Bool.and_eq_true] at h;simp at he;subst he;exact h.1
 | x :: l,k,h,i + 1,e,he=>by
  simp only [allGE,Bool.and_eq_true] at h;have:=allGE_all h.2 i e (by simpa using he)
  rwa [show k + 1 + i=k + (i + 1) by omega] at this
theorem mayEnt_body {m:Msg} (h:mayEnt m=true):m.entries.length≤4∧∀ e∈m.entries,e.body.length≤1024:=by
 simp only [mayEnt,Bool.and_eq_true,decide_eq_true_eq] at h;refine ⟨h.1.2,fun e he=>?_⟩;obtain ⟨i,hi⟩:=List.mem_iff_getElem?.1 he;have:=allGE_all h.2 i e hi;simp only [pEnt,mayE,Bool.and_eq_true,decide_eq_true_eq] at this;exact this.1.2
theorem put_ok {m:Msg} (h:mayM m=true):putMsg (addS (false,[]) [m.kind]) m=(false,formM m):=by
 have h0:addS (false,[]) [m.kind]=(false,[m.kind]):=addS_ok (by simp);rw [h0];unfold mayM at h;unfold putMsg formM fieldF
 have ask:mayAsk m=true→putAsk (false,[m.kind]) m=(false,m.kind :: askF m):=fun h=>by
  simp only [mayAsk,Bool.and_eq_true,decide_eq_true_eq] at h;unfold putAsk;rw [addS_ok (by rw [intS_length];simp),addS_ok (by simp only [List.length_append,intS_length];simp),addS_ok (by simp only [List.length_append,intS_length,putS_length];simp),addS_ok (by simp only [List.length_append,intS_length,putS_length];simp;omega)];simp [askF,numS]
 split at h
 ·rename_i hk;(try simp only [hk]);simp only [Bool.and_eq_true] at h;exact ask h.1
 ·rename_i hk;(try simp only [hk])
  simp only [Bool.and_eq_true] at h;obtain ⟨h1,h2⟩:=mayEnt_body h.1;unfold putEnt;rw [addS_ok (by rw [intS_length];simp),addS_ok (by simp only [List.length_append,intS_length];simp),addS_ok (by simp only [List.length_append,intS_length];simp),foldR_ok h2 (by simp only [List.length_append,intS_length];simp;omega)];simp [entF,numS]
 ·rename_i hk;(try simp only [hk])
  unfold putHave;rw [addS_ok (by rw [intS_length];simp),addS_ok (by simp only [List.length_append,intS_length];simp)];simp [numS]
 ·rename_i hk;(try simp only [hk])
  simp only [Bool.and_eq_true] at h;have:=h.1;simp only [mayCfg,Bool.and_eq_true,decide_eq_true_eq] at this;rw [putC_ok (by simp;omega)];simp
 ·rename_i hk;(try simp only [hk])
  unfold putWhole;rw [addS_ok (by rw [intS_length];simp)];simp [numS]
 ·rename_i hk;(try simp only [hk]);simp only [Bool.and_eq_true] at h;exact ask h.1
 ·cases h
theorem formM_length {m:Msg} (h:mayM m=true):(formM m).length≤65536:=by
 have:=put_ok h
 have h1:(putMsg (addS (false,[]) [m.kind]) m).2.length≤65536:=by
  have h0:(addS (false,[]) [m.kind]).2.length≤65536:=addS_len (by simp);unfold putMsg;split
  ·exact addS_len (addS_len (addS_len (addS_len h0)))
  ·exact foldR_len (addS_len (addS_len (addS_len h0)))
  ·exact addS_len (addS_len h0)
  ·unfold putC
   have:∀ (l:List Member) (st:Bool×List UInt8),st.2.length≤65536→(l.foldl putM st).2.length≤65536:=fun l=>by
    induction l with
    | nil=>intro st h;exact h
    | cons m l ih=>intro st h;exact ih _ (putM_len h)
   exact this _ _ (addS_len (addS_len h0))
  ·exact addS_len h0
  ·exact addS_len (addS_len (addS_len (addS_len h0)))
  ·exact h0
 rw [this] at h1;exact h1
theorem wdoneO_ac (acc:List UInt8) (hst:acc.length≤65536) :
 AC Tryz.prog 94 [.bp 0 0 0] [wB (false,acc)] (fun v bs'=>v=.tu [bs (some tU) acc,I 0]∧bs'=[wD (false,acc)]):=by
 have h:=wcat_ac [acc] (by simp) (by simp;omega);refine AC.N Tryz.func94 Tryz.ntmps94 ?_;intro X hρ hmks;refine NX ?_;refine CP.gh (gh_fz (b:=1) (u:=1) rfl rfl (by (repeat' (first|exact FzC.nil|apply FzC.cons|exact FzV.hd|apply FzV.ag|exact FzV.same))) (by (repeat' (first|exact FzB.nil|apply FzB.c|apply FzB.same|exact FzC.nil|apply FzC.cons|exact FzV.hd|apply FzV.ag|exact FzV.same)))) ?_;simp only [ro_B]
 repeat' (first|((first|refine wA5 ?_|(refine GA ?_;refine ⟨fun hg=>?_,fun hg=>?_⟩)|(refine GV ?_;intro c hnil;simp only [nz])|refine aC1 h ?_|((with_reducible apply AP.k_any);refine AP.gh (gh_fz (b:=1) (u:=2) rfl rfl (by (repeat' (first|exact FzC.nil|apply FzC.cons|exact FzV.hd|apply FzV.ag|exact FzV.same))) (by (repeat' (first|exact FzB.nil|apply FzB.c|apply FzB.same|exact FzC.nil|apply FzC.cons|exact FzV.hd|apply FzV.ag|exact FzV.same)))) ?_;first|simp only [roE,roC,AV.ro,ro_B,ro_M,ro_E]|simp only [roE,roC,AV.ro,ro_B]))<;>(try refine NX ?_))|refine wT4 ?_|with_reducible intro Q' hQ'|(refine GC ?_;refine ⟨fun hc=>?_,fun hc=>?_⟩)|simp only [la])
 (refine RetQ.B [(0,0)] ?_;(try dsimp only [resV,List.getD_cons_succ,List.getD_cons_zero]);(exact ⟨by simp,rfl⟩))
def printS (m:Msg):List UInt8×Int:=if mayM m=true then (formM m,0) else ([],2)
theorem aC9 {p G G':Prop} (c:p) (K:G') (h:p→G'→G:=by (intro c kz;(with_reducible apply AP.k_any);exact AP.CB [] 1 c kz)):G:=h c K
theorem aC10 {p G G':Prop} (c:p) (K:G') (h:p→G'→G:=by (intro c kz;(with_reducible apply AP.k_any);exact AP.CB [(2,1)] 0 c kz)):G:=h c K
theorem dC6 {p G G':Prop} (c:p) (K:G') (h:p→G'→G:=by (intro c kz;(with_reducible apply DW.k_any);refine DW.known rfl ?_;(with_reducible first|apply DW.sx 2);(iterate 2 (focus (simp only [ft,nm,Nat.reduceAdd,Nat.reduceBEq,List.getElem?_cons_zero,List.getElem?_cons_succ];exact rfl)));(focus (intro X V;simp only [ft,nm,Nat.reduceAdd,Nat.reduceBEq];(try (refine AP.Y ?_;dsimp only));((with_reducible apply AP.k_any);refine AP.CB [] 1 c ?_);(try refine NX ?_);refine AP.nil ?_;(first|refine ⟨trivial,rfl,?_⟩|refine ⟨rfl,rfl,?_⟩);(repeat' (first|exact Mg.nil|apply Mg.keep rfl|apply Mg.take rfl));done));(focus (refine Exists.intro (fun _=>0) ?_;apply Exists.intro;(repeat' (first|exact Mg.nil|apply Mg.keep rfl|apply Mg.take rfl));done));(iterate 2 (focus (exact rfl)));exact kz)):G:=h c K
theorem dC7 {p G G':Prop} (c:p) (K:G') (h:p→G'→G:=by (intro c kz;(with_reducible apply DW.k_any);refine DW.known rfl ?_;(with_reducible first|apply DW.sx 2);(iterate 2 (focus (simp only [ft,nm,Nat.reduceAdd,Nat.reduceBEq,List.getElem?_cons_zero,List.getElem?_cons_succ];exact rfl)));(focus (intro X V;simp only [ft,nm,Nat.reduceAdd,Nat.reduceBEq];(try (refine AP.Y ?_;dsimp only));((with_reducible apply AP.k_any);refine AP.CB [(2,1)] 0 c ?_);(try refine NX ?_);refine AP.nil ?_;(first|refine ⟨trivial,rfl,?_⟩|refine ⟨rfl,rfl,?_⟩);(repeat' (first|exact Mg.nil|apply Mg.keep rfl|apply Mg.take rfl));done));(focus (refine Exists.intro (fun _=>0) ?_;apply Exists.intro;(repeat' (first|exact Mg.nil|apply Mg.keep rfl|apply Mg.take rfl));done));(iterate 2 (focus (exact rfl)));exact kz)):G:=h c K
theorem printG_ac (f1 f2 f3 f4:Nat) (m:Msg) (hs:m.small) (h:mayM m=true) (hof:AC Tryz.prog 52 [.ag (eG m)] [] (fun v bs=>v=.tu [.ag [fnv f1,fnv f2,fnv f3,fnv f4],B true]∧bs=[]))
 (hput:AC Tryz.prog f3 [.bp 0 0 0,.ag (eG m)] [wB (false,[m.kind])] (fun v bs=>v=.tu []∧bs=[wB (putMsg (addS (false,[]) [m.kind]) m)])) :
 AC Tryz.prog 72 [.ag (eG m)] [] (fun v bs'=>v=.tu [bs (some tU) (formM m),I 0]∧bs'=[]):=by
 obtain ⟨hb,he,hc,hb2⟩:=hs;have hmay:=mayMsg_ac m he hc;rw [h] at hmay;have h0:addS (false,[]) [m.kind]=(false,[m.kind]):=addS_ok (by simp);have hby:=wbyte_ac (false,[]) m.kind (by simp);rw [h0] at hby;have hp:=put_ok h;rw [hp] at hput;have hd:=wdoneO_ac (formM m) (formM_length h);refine AC.N Tryz.func72 Tryz.ntmps72 ?_;intro X hρ hmks;refine NX ?_
 repeat' (first|((first|refine wA4 ?_|refine aC1 hmay ?_|refine aC1 hof ?_)<;>(try refine NX ?_))|refine wT4 ?_|with_reducible intro Q' hQ'|(refine GC ?_;refine ⟨fun hc=>?_,fun hc=>?_⟩)|simp only [la])
 refine CP.gh gh_slot ?_;refine NX ?_
 refine CP.gh gh_slot ?_;refine NX ?_
 refine CP.gh gh_slot ?_;refine NX ?_
 repeat' (first|((first|refine wA4 ?_|refine aC9 wnew_ac ?_|refine aC10 hby ?_|((with_reducible apply AP.k_any);refine ap_callB 0 [(2,1)] rfl rfl (fn:=f3) rfl (hput) (by (repeat' (first|exact PasC.nil|apply PasC.nil|apply PasC.cons|apply PasV.leaf rfl|apply PasV.nl|apply PasV.bp rfl|apply PasV.vp rfl|apply PasV.pz|exact VsM.nil|apply VsM.cons rfl|apply PasV.lend rfl rfl rfl|apply PasV.lend rfl rfl (ro_B _)|apply PasV.lend rfl rfl (ro_M _)|apply PasV.lend rfl rfl (ro_E _ _)|apply PasV.lend rfl rfl (ro_I _)|apply PasV.lend rfl rfl (by (simp only [rn,List.map_cons,List.map_nil];first|done|rfl))|apply PasV.mv rfl|apply PasV.hk rfl|apply PasV.ag|apply PasV.fn|exact PasV.fs|apply PasV.any|exact rfl))) (by (repeat' (first|exact ClsC.nil|apply ClsC.nl|apply ClsC.leaf rfl|apply ClsC.hd rfl|apply ClsC.ob rfl|apply ClsC.mo rfl|apply ClsC.mp rfl|apply ClsC.hp rfl|exact Out.nil|apply Out.cons rfl|apply Out.r rfl|apply Out.f rfl|apply ClsC.fn|apply ClsC.fz rfl (ro_B _)|apply ClsC.fz rfl (ro_M _)|apply ClsC.fz rfl (ro_E _ _)|apply ClsC.fz rfl rfl))) rfl (by (repeat' (first|exact Bk.nil|apply Bk.cF rfl rfl|(apply Bk.cN rfl;(try refine NX ?_);apply BkN.mk rfl)|apply Bk.r rfl))) (by (repeat' (first|exact RnV.leaf rfl|exact RnV.fs|exact RnC.nil|apply RnC.cons|apply RnV.ag|apply RnV.tu|apply RnV.fn|exact RnV.bp rfl))) rfl ?_)|refine aC10 hd ?_|refine wD6 ?_|((with_reducible apply DW.k_any);refine DW.known rfl ?_;(with_reducible first|apply DW.sx 2);(iterate 2 (focus (simp only [ft,nm,Nat.reduceAdd,Nat.reduceBEq,List.getElem?_cons_zero,List.getElem?_cons_succ];exact rfl)));(focus (intro X V;simp only [ft,nm,Nat.reduceAdd,Nat.reduceBEq];(try (refine AP.Y ?_;dsimp only));(first|((with_reducible apply AP.k_any);refine AP.CB [] 1 (wnew_ac) ?_)|((with_reducible apply AP.k_any);refine AP.CB [(2,1)] 0 (hby) ?_)|((with_reducible apply AP.k_any);refine ap_callB 0 [(2,1)] rfl rfl (fn:=f3) rfl (hput) (by (repeat' (first|exact PasC.nil|apply PasC.nil|apply PasC.cons|apply PasV.leaf rfl|apply PasV.nl|apply PasV.bp rfl|apply PasV.vp rfl|apply PasV.pz|exact VsM.nil|apply VsM.cons rfl|apply PasV.lend rfl rfl rfl|apply PasV.lend rfl rfl (ro_B _)|apply PasV.lend rfl rfl (ro_M _)|apply PasV.lend rfl rfl (ro_E _ _)|apply PasV.lend rfl rfl (ro_I _)|apply PasV.lend rfl rfl (by (simp only [rn,List.map_cons,List.map_nil];first|done|rfl))|apply PasV.mv rfl|apply PasV.hk rfl|apply PasV.ag|apply PasV.fn|exact PasV.fs|apply PasV.any|exact rfl))) (by (repeat' (first|exact ClsC.nil|apply ClsC.nl|apply ClsC.leaf rfl|apply ClsC.hd rfl|apply ClsC.ob rfl|apply ClsC.mo rfl|apply ClsC.mp rfl|apply ClsC.hp rfl|exact Out.nil|apply Out.cons rfl|apply Out.r rfl|apply Out.f rfl|apply ClsC.fn|apply ClsC.fz rfl (ro_B _)|apply ClsC.fz rfl (ro_M _)|apply ClsC.fz rfl (ro_E _ _)|apply ClsC.fz rfl rfl))) rfl (by (repeat' (first|exact Bk.nil|apply Bk.cF rfl rfl|(apply Bk.cN rfl;(try refine NX ?_);apply BkN.mk rfl)|apply Bk.r rfl))) (by (repeat' (first|exact RnV.leaf rfl|exact RnV.fs|exact RnC.nil|apply RnC.cons|apply RnV.ag|apply RnV.tu|apply RnV.fn|exact RnV.bp rfl))) rfl ?_)|((with_reducible apply AP.k_any);refine AP.CB [(2,1)] 0 (hd) ?_)|fail);(try refine NX ?_);refine AP.nil ?_;(first|refine ⟨trivial,rfl,?_⟩|refine ⟨rfl,rfl,?_⟩);(repeat' (first|exact Mg.nil|apply Mg.keep rfl|apply Mg.take rfl));done));(focus (refine Exists.intro (fun _=>0) ?_;apply Exists.intro;(repeat' (first|exact Mg.nil|apply Mg.keep rfl|apply Mg.take rfl));done));(iterate 2 (focus (exact rfl)))))<;>(try refine NX ?_))|refine wT5 ?_|with_reducible intro Q' hQ'|(refine GC ?_;refine ⟨fun hc=>?_,fun hc=>?_⟩)|simp only [la])
 (refine RetQ.B [] ?_;(try dsimp only [resV,List.getD_cons_succ,List.getD_cons_zero]);(exact ⟨rfl,rfl⟩))
theorem print_ac (m:Msg) (hs:m.small):AC Tryz.prog 72 [.ag (eG m)] [] (fun v bs'=>v=.tu [bs (some tU) (printS m).1,I (printS m).2]∧bs'=[]):=by
 by_cases h:mayM m=true
 ·rw [printS,if_pos h];have h0:addS (false,[]) [m.kind]=(false,[m.kind]):=addS_ok (by simp);have hl:((false,[m.kind]):Bool×List UInt8).2.length≤65536:=by simp
  rcases kind_cases m.kind with hk|hk|hk|hk|hk|hk|hk
  ·exact printG_ac _ _ _ _ m hs h (of1_ac m hk) (by rw [h0];simpa only [putMsg,hk] using kput3_ac _ m hl hs.1)
  ·exact printG_ac _ _ _ _ m hs h (of2_ac m hk) (by rw [h0];simpa only [putMsg,hk] using eput3_ac _ m hl hs.2.1 hs.2.2.2)
  ·exact printG_ac _ _ _ _ m hs h (of3_ac m hk) (by rw [h0];simpa only [putMsg,hk] using kput7_ac _ m hl)
  ·exact printG_ac _ _ _ _ m hs h (of4_ac m hk) (by rw [h0];simpa only [putMsg,hk] using kput11_ac _ m hl hs.2.2.1)
  ·exact printG_ac _ _ _ _ m hs h (of5_ac m hk) (by rw [h0];simpa only [putMsg,hk] using kput15_ac _ m hl)
  ·exact printG_ac _ _ _ _ m hs h (of6_ac m hk) (by rw [h0];simpa only [putMsg,hk] using kput3_ac _ m hl hs.1)
  ·rw [may_no m hk] at h;cases h
 ·rw [printS,if_neg h];have hmay:=mayMsg_ac m hs.2.1 hs.2.2.1;rw [show mayM m=false by simpa using h] at hmay;refine AC.N Tryz.func72 Tryz.ntmps72 ?_;intro X hρ hmks;refine NX ?_
  repeat' (first|((first|refine wA4 ?_|refine aC1 hmay ?_)<;>(try refine NX ?_))|refine wT4 ?_|with_reducible intro Q' hQ'|(refine GC ?_;refine ⟨fun hc=>?_,fun hc=>?_⟩)|simp only [la])
  (exact RetQ.A [] (by exact ⟨rfl,rfl⟩))
theorem intR_len {st:Int×List UInt8} {k:Nat} (h:st.2.length≤k):(intR st).2.2.length≤k:=takeS_len h
theorem flagR_len {st:Int×List UInt8} {k:Nat} (h:st.2.length≤k):(flagR st).2.2.length≤k:=takeS_len h
theorem byteR_len {st:Int×List UInt8} {k:Nat} (h:st.2.length≤k):(byteR st).2.2.length≤k:=takeS_len h
theorem bytesR_len {st:Int×List UInt8} {k:Nat} (h:st.2.length≤k):(bytesR st).2.2.length≤k:=takeS_len (takeS_len h)
theorem countR_len {m:Int} {st:Int×List UInt8} {k:Nat} (h:st.2.length≤k):(countR m st).2.2.length≤k:=takeS_len h
def restR (pos:Int) (st:Int×List UInt8):Entry×(Int×List UInt8):=
 (⟨pos,(intR st).1,(intR (intR st).2).1,(intR (intR (intR st).2).2).1,(bytesR (intR (intR (intR st).2).2).2).1⟩,(bytesR (intR (intR (intR st).2).2).2).2)
def memR (st:Int×List UInt8):Member×(Int×List UInt8):=(⟨(intR st).1,(intR (intR st).2).1,(flagR (intR (intR st).2).2).1⟩,(flagR (intR (intR st).2).2).2)
def memsR:Nat→(Int×List UInt8)→List Member×(Int×List UInt8)
 | 0,st=>([],st)
 | n + 1,st=>((memR st).1 :: (memsR n (memR st).2).1,(memsR n (memR st).2).2)
def configR (st:Int×List UInt8):Config×(Int×List UInt8):=
 (⟨(intR st).1,(memsR (countR 5 (intR st).2).1.toNat (countR 5 (intR st).2).2).1⟩,(memsR (countR 5 (intR st).2).1.toNat (countR 5 (intR st).2).2).2)
theorem restR_len {p:Int} {st:Int×List UInt8} {k:Nat} (h:st.2.length≤k):(restR p st).2.2.length≤k:=bytesR_len (intR_len (intR_len (intR_len h)))
theorem memR_len {st:Int×List UInt8} {k:Nat} (h:st.2.length≤k):(memR st).2.2.length≤k:=flagR_len (intR_len (intR_len h))
theorem memsR_len {k:Nat}:∀ {n:Nat} {st:Int×List UInt8},st.2.length≤k→(memsR n st).2.2.length≤k
 | 0,_,h=>h
 | n + 1,st,h=>memsR_len (n:=n) (st:=(memR st).2) (memR_len h)
theorem memsR_snoc:∀ (n:Nat) (st:Int×List UInt8),(memsR (n + 1) st).1=(memsR n st).1 ++ [(memR (memsR n st).2).1]∧(memsR (n + 1) st).2=(memR (memsR n st).2).2
 | 0,st=>⟨rfl,rfl⟩
 | n + 1,st=>by
  have h:=memsR_snoc n (memR st).2;exact ⟨by show (memR st).1 :: (memsR (n + 1) (memR st).2).1=_;rw [h.1];rfl,h.2⟩
theorem memsR_fst_len:∀ (n:Nat) (st:Int×List UInt8),(memsR n st).1.length=n
 | 0,_=>rfl
 | n + 1,st=>by show (_ :: _).length=_;rw [List.length_cons,memsR_fst_len n]
theorem countR_le {m:Int} {st:Int×List UInt8} (hm:0≤m):0≤(countR m st).1∧(countR m st).1≤m:=by
 unfold countR takeS;split
 ·exact ⟨Int.le_refl _,hm⟩
 ·split
  ·exact ⟨Int.le_refl _,hm⟩
  ·split
   ·rename_i h
    simp [countG] at h;exact ⟨h.1.1,h.1.2⟩
   ·exact ⟨Int.le_refl _,hm⟩
theorem takeRest_ac (pos:Int) (st:Int×List UInt8) (hst:st.2.length≤100000000) :
 AC Tryz.prog 202 [.bp 0 0 0,I pos] [rB st] (fun v bs=>v=.ag (eE none (restR pos st).1)∧bs=[rB (restR pos st).2]):=by
 have h1:=intR_len hst;have h2:=intR_len h1;have h3:=intR_len h2;refine AC.N Tryz.func202 Tryz.ntmps202 ?_;intro X hρ hmks;refine NX ?_
 repeat' (first|((first|refine wA4 ?_|refine aC2 (rbytes_ac (intR (intR (intR st).2).2).2 h3) ?_|refine aC2 (rint_ac (intR (intR st).2).2 h2) ?_|refine aC2 (rint_ac (intR st).2 h1) ?_|refine aC2 (rint_ac st hst) ?_)<;>(try refine NX ?_))|refine wT4 ?_|with_reducible intro Q' hQ'|(refine GC ?_;refine ⟨fun hc=>?_,fun hc=>?_⟩)|simp only [la])
 (exact RetQ.A [(0,0)] (by exact ⟨rfl,rfl⟩))
theorem takeConfig_ac (st:Int×List UInt8) (hst:st.2.length≤100000000) :
 AC Tryz.prog 157 [.bp 0 0 0] [rB st] (fun v bs=>v=.ag (eC none (configR st).1)∧bs=[rB (configR st).2]):=by
 have h1:=intR_len hst;have h2:=countR_len (m:=5) h1;obtain ⟨hc0,hc5⟩:=countR_le (m:=5) (st:=(intR st).2) (by omega);refine AC.N Tryz.func157 Tryz.ntmps157 ?_;intro X hρ hmks;refine NX ?_
 repeat' (first|((first|refine wA4 ?_|refine aC2 (rint_ac st hst) ?_|refine aC2 (rcount_ac 5 _ h1) ?_)<;>(try refine NX ?_))|refine wT4 ?_|with_reducible intro Q' hQ'|(refine GC ?_;refine ⟨fun hc=>?_,fun hc=>?_⟩)|simp only [la])
 refine CP.gh (gh_nilc (j:=2) (u:=1) (off:=1) (e:=tM) (k:=3) rfl rfl) ?_;refine NX ?_;refine CP.gh gh_slot ?_;refine NX ?_;have h0:(configR st)=(⟨(intR st).1,(memsR (countR 5 (intR st).2).1.toNat (countR 5 (intR st).2).2).1⟩,(memsR (countR 5 (intR st).2).1.toNat (countR 5 (intR st).2).2).2):=rfl;rw [h0];clear h0;obtain ⟨N,hN⟩:∃ N:Nat,(countR 5 (intR st).2).1=N:=⟨(countR 5 (intR st).2).1.toNat,by omega⟩;rw [hN] at hc5 ⊢;rw [Int.toNat_natCast];generalize (countR 5 (intR st).2).2=S0 at h2 ⊢;refine cp_loopS [9,10,11,12,13,14,15,16,17,18,19,20,21,22,23] (fun a:Nat×Nat×Nat=>N - a.1) (fun a=>a.1≤N) (fun a=>[(9,I a.1)]) (fun a=>[(0,⟨0,rB (memsR a.1 S0).2⟩),(2,⟨1,.c 37 [I (intR st).1,.hd 3 a.2.1]⟩),(3,⟨a.2.1,.r tM 3 ((memsR a.1 S0).1.map eM)⟩),(4,⟨a.2.2,.x⟩)]) (0,1,0) (Nat.zero_le _) (by exact Gh.W) ?_;rintro ⟨k,u,v⟩ hk;simp only [setT,deT,setB,List.set_cons_succ,List.set_cons_zero];dsimp only at hk;have hS:=memsR_len (n:=k) h2;have hL:=memsR_fst_len k S0;have hs1:=(memsR_snoc k S0).1;have hs2:=(memsR_snoc k S0).2
 by_cases hlt:k < N
 ·have hw:IntKind.i64.wrap ((k:Int) + 1)=((k + 1:Nat):Int):=wrap_i64 (by omega) (by omega);generalize hms:memsR k S0=ms at hS hL hs1 hs2 ⊢;obtain ⟨ml,S⟩:=ms;dsimp only at hS hL hs1 hs2 ⊢;have g1:=intR_len hS;have g2:=intR_len g1;have hlen:(ml.map eM).length + 1≤1000000000:=by rw [List.length_map];omega
  repeat' (first|((first|refine wA4 ?_)<;>(try refine NX ?_))|refine wT4 ?_|with_reducible intro Q' hQ'|(refine GC ?_;refine ⟨fun hc=>?_,fun hc=>?_⟩)|simp only [la])
  ·refine cp_drawI (fun zs zb=>⟨setT zs.t [(11,cond (zb.getD 0 false) (.bp 2 1 1) (.de)),(12,cond (zb.getD 1 false) (.hd 3 u) (.de)),(13,cond (zb.getD 2 false) (.bp 0 0 0) (.de)),(14,cond (zb.getD 3 false) (I (intR S).1) (.de)),(15,cond (zb.getD 4 false) (.bp 0 0 0) (.de)),(16,cond (zb.getD 5 false) (I (intR (intR S).2).1) (.de)),(17,cond (zb.getD 6 false) (.bp 0 0 0) (.de)),(18,cond (zb.getD 7 false) (B (flagR (intR (intR S).2).2).1) (.de)),(19,cond (zb.getD 8 false) (.ag (eM (memR S).1)) (.de)),(20,cond (zb.getD 9 false) (.hd 4 (v + 1)) (.de)),(21,cond (zb.getD 10 false) (.hd 3 (u + 1)) (.de)),(22,cond (zb.getD 11 false) (.bp 2 1 1) (.de))],((((zs.b.set 0 (cond (zb.getD 7 false) (⟨0,rB (memR S).2⟩) (cond (zb.getD 5 false) (⟨0,rB (intR (intR S).2).2⟩) (cond (zb.getD 3 false) (⟨0,rB (intR S).2⟩) (zs.b.getD 0 ⟨0,.x⟩))))).set 2 (cond (zb.getD 12 false) (⟨1,.c 37 [I (intR st).1,.hd 3 (u + 1)]⟩) (zs.b.getD 2 ⟨0,.x⟩))).set 3 (cond (zb.getD 10 false) (⟨u + 1,.r tM 3 (ml.map eM ++ [eM (memR S).1])⟩) (zs.b.getD 3 ⟨0,.x⟩))).set 4 (cond (zb.getD 10 false) (⟨v + 1,.x⟩) (cond (zb.getD 9 false) (⟨v + 1,.r tM 3 [eM (memR S).1]⟩) (zs.b.getD 4 ⟨0,.x⟩))))⟩) (by kernel_rfl) (by kernel_rfl) (by kernel_rfl) ?_ ?_
   rotate_left
   simp only [cond_true,cond_false,setT,List.set_cons_succ,List.set_cons_zero,List.getD_cons_succ,List.getD_cons_zero,List.set_cons_succ,List.length_cons,List.length_nil,List.replicate_succ,List.replicate_zero,Nat.reduceAdd]
   rotate_left
   ·intro b hb' hcl;obtain ⟨l0,b0,rfl,hb0⟩:=len_cons hb';obtain ⟨l1,b1,rfl,hb1⟩:=len_cons hb0;obtain ⟨l2,b2,rfl,hb2⟩:=len_cons hb1;obtain ⟨l3,b3,rfl,hb3⟩:=len_cons hb2;obtain ⟨l4,b4,rfl,hb4⟩:=len_cons hb3;obtain ⟨l5,b5,rfl,hb5⟩:=len_cons hb4;obtain ⟨l6,b6,rfl,hb6⟩:=len_cons hb5;obtain ⟨l7,b7,rfl,hb7⟩:=len_cons hb6;obtain ⟨l8,b8,rfl,hb8⟩:=len_cons hb7;obtain ⟨l9,b9,rfl,hb9⟩:=len_cons hb8;obtain ⟨l10,b10,rfl,hb10⟩:=len_cons hb9;obtain ⟨l11,b11,rfl,hb11⟩:=len_cons hb10;obtain ⟨l12,b12,rfl,hb12⟩:=len_cons hb11;obtain rfl:=List.length_eq_zero_iff.1 hb12;clear hb' hb0 hb1 hb2 hb3 hb4 hb5 hb6 hb7 hb8 hb9 hb10 hb11 hb12
    ·simp only [closedB,depsOk,Region.binds,List.toList_toArray,List.all_cons,List.all_nil,List.getD_cons_succ,List.getD_cons_zero,Bool.not_true,Bool.not_false,Bool.true_or,Bool.false_or,Bool.and_true,Bool.true_and,Bool.or_true,Bool.and_false,Bool.or_false,Bool.false_and,Bool.and_eq_true,Bool.or_eq_true,Bool.not_eq_true'] at hcl;simp only [StepsP];refine ⟨?_,?_,?_,?_,?_,?_,?_,?_,?_,?_,?_,?_,?_,trivial⟩
     all_goals
      intro h1 h2;simp [depsOk,Region.binds] at h1 h2;subst h1
      (repeat (obtain ⟨rfl,h2⟩:=h2))
      (try subst h2)
      all_goals (try (cases l3<;>(try (exfalso;grind only))))
      all_goals (try (cases l5<;>(try (exfalso;grind only))))
      all_goals (try (cases l7<;>(try (exfalso;grind only))))
      all_goals (try (cases l9<;>(try (exfalso;grind only))))
      all_goals (try (cases l10<;>(try (exfalso;grind only))))
      all_goals (try (cases l12<;>(try (exfalso;grind only))))
      all_goals clear hcl
      all_goals refine CD ?_
      all_goals (first|((with_reducible apply AP.k_any);first|(refine AP.sm false rfl ?_ ?_;focus (exact PF0))|(refine AP.el rfl ?_ (by (first|(refine ⟨?_,?_⟩;assumption;rfl)|((try clear kz);exact ⟨mapAt (by (first|omega|(simp;omega)|(simp;done)|assumption)),rfl⟩)|exact ⟨rfl,rfl⟩)) ?_;focus (exact PF0))|refine ap_storeE rfl rfl rfl rfl rfl rfl rfl rfl (by (first|(refine ⟨?_,?_⟩;assumption;rfl)|((try clear kz);exact ⟨mapAt (by (first|omega|(simp;omega)|(simp;done)|assumption)),rfl⟩)|exact ⟨rfl,rfl⟩)) (by exact rfl) ?_)|((with_reducible apply AP.k_any);refine AP.CB [(0,0)] 0 (rint_ac (intR S).2 g1) ?_)|((with_reducible apply AP.k_any);refine AP.CB [(0,0)] 0 (rint_ac S hS) ?_)|((with_reducible apply AP.k_any);refine AP.CB [(0,0)] 0 (rflag_ac _ g2) ?_))
      all_goals (try refine NX ?_)
      all_goals (refine AP.nil ?_;exact ⟨rfl,rfl⟩)
   repeat' (first|((first|refine wA4 ?_)<;>(try refine NX ?_))|refine wT4 ?_|with_reducible intro Q' hQ'|(refine GC ?_;refine ⟨fun hc=>?_,fun hc=>?_⟩)|simp only [la])
   simp only [hw];refine ⟨(k + 1,u + 1,v + 1),by (dsimp only;omega),by (dsimp only;omega),?_⟩;dsimp only;rw [hs1,hs2,List.map_append,List.map_cons,List.map_nil];exact Gh.W
  ·exfalso;simp at *;omega
 ·obtain rfl:k=N:=by omega
  refine CP.gh (gh_fz (b:=3) (u:=u) rfl rfl (by (repeat' (first|exact FzC.nil|apply FzC.cons|exact FzV.hd|apply FzV.ag|exact FzV.same))) (by (repeat' (first|exact FzB.nil|apply FzB.c|apply FzB.same|exact FzC.nil|apply FzC.cons|exact FzV.hd|apply FzV.ag|exact FzV.same)))) ?_;simp only [ro_M]
  repeat' (first|((first|refine wA4 ?_)<;>(try refine NX ?_))|refine wT4 ?_|with_reducible intro Q' hQ'|(refine GC ?_;refine ⟨fun hc=>?_,fun hc=>?_⟩)|simp only [la])
  all_goals first
   | (exfalso;simp at *;done)
   | (exfalso;simp at *;omega)
   | (exact RetQ.A [(0,0)] (by exact ⟨rfl,rfl⟩))
abbrev nl:AV:=.sc (.slice none 0 0)
/-- a message of a kind, read so far -/
abbrev eZ (k:UInt8) (c i:Int) (b:AV) (u f:Int) (e:AV) (h d ep:Int) (ms:AV) (s:Int):Bx:=.c tMsg [U k,I c,I i,b,I u,I f,e,I h,I d,I ep,ms,I s]
abbrev St:=Int×List UInt8
def takeAsk (k:UInt8) (st:St):Msg×St:=({ msg0 with kind:=k,client:=(intR st).1,id:=(intR (intR st).2).1,body:=(bytesR (intR (intR st).2).2).1 },(bytesR (intR (intR st).2).2).2)
def takeHave (k:UInt8) (st:St):Msg×St:=({ msg0 with kind:=k,have_:=(intR st).1,done:=(intR (intR st).2).1 },(intR (intR st).2).2)
def takeCfg (k:UInt8) (st:St):Msg×St:=({ msg0 with kind:=k,cfg:=(configR st).1 },(configR st).2)
def takeWhole (k:UInt8) (st:St):Msg×St:=({ msg0 with kind:=k,since:=(intR st).1 },(intR st).2)
/-- n entries from a position on -/
def entsR (p:Int):Nat→Nat→St→List Entry×St
 | _,0,st=>([],st)
 | i,n + 1,st=>((restR (IntKind.i64.wrap (p + i)) st).1 :: (entsR p (i + 1) n (restR (IntKind.i64.wrap (p + i)) st).2).1,(entsR p (i + 1) n (restR (IntKind.i64.wrap (p + i)) st).2).2)
def takeEnt (k:UInt8) (st:St):Msg×St:=
 ({ msg0 with kind:=k,upto:=(intR st).1,frm:=(intR (intR st).2).1,entries:=(entsR (intR (intR st).2).1 0 (countR 4 (intR (intR st).2).2).1.toNat (countR 4 (intR (intR st).2).2).2).1 },
   (entsR (intR (intR st).2).1 0 (countR 4 (intR (intR st).2).2).1.toNat (countR 4 (intR (intR st).2).2).2).2)
theorem ktake4_ac (k:UInt8) (st:St) (hst:st.2.length≤100000000) :
 AC Tryz.prog 145 [.bp 0 0 0,.bp 1 0 0] [rB st,eZ k 0 0 nl 0 0 nl 0 0 0 nl 0] (fun v bs'=>v=.tu []∧bs'=[rB (takeAsk k st).2,.c tMsg (eG (takeAsk k st).1)]):=by
 have h1:=intR_len hst;have h2:=intR_len h1;refine AC.N Tryz.func145 Tryz.ntmps145 ?_;intro X hρ hmks;refine NX ?_
 repeat' (first|((first|refine wA4 ?_|refine aC2 (rbytes_ac (intR (intR st).2).2 h2) ?_|refine aC2 (rint_ac (intR st).2 h1) ?_|refine aC2 (rint_ac st hst) ?_)<;>(try refine NX ?_))|refine wT4 ?_|with_reducible intro Q' hQ'|(refine GC ?_;refine ⟨fun hc=>?_,fun hc=>?_⟩)|simp only [la])
 (exact RetQ.A [(0,0),(1,0)] (by exact ⟨rfl,rfl⟩))
theorem ktake8_ac (k:UInt8) (st:St) (hst:st.2.length≤100000000) :
 AC Tryz.prog 150 [.bp 0 0 0,.bp 1 0 0] [rB st,eZ k 0 0 nl 0 0 nl 0 0 0 nl 0] (fun v bs'=>v=.tu []∧bs'=[rB (takeHave k st).2,.c tMsg (eG (takeHave k st).1)]):=by
 have h1:=intR_len hst;refine AC.N Tryz.func150 Tryz.ntmps150 ?_;intro X hρ hmks;refine NX ?_
 repeat' (first|((first|refine wA4 ?_|refine aC2 (rint_ac (intR st).2 h1) ?_|refine aC2 (rint_ac st hst) ?_)<;>(try refine NX ?_))|refine wT4 ?_|with_reducible intro Q' hQ'|(refine GC ?_;refine ⟨fun hc=>?_,fun hc=>?_⟩)|simp only [la])
 (exact RetQ.A [(0,0),(1,0)] (by exact ⟨rfl,rfl⟩))
theorem ktake12_ac (k:UInt8) (st:St) (hst:st.2.length≤100000000) :
 AC Tryz.prog 156 [.bp 0 0 0,.bp 1 0 0] [rB st,eZ k 0 0 nl 0 0 nl 0 0 0 nl 0] (fun v bs'=>v=.tu []∧bs'=[rB (takeCfg k st).2,.c tMsg (eG (takeCfg k st).1)]):=by
 refine AC.N Tryz.func156 Tryz.ntmps156 ?_;intro X hρ hmks;refine NX ?_
 repeat' (first|((first|refine wA4 ?_|refine aC2 (takeConfig_ac st hst) ?_)<;>(try refine NX ?_))|refine wT4 ?_|with_reducible intro Q' hQ'|(refine GC ?_;refine ⟨fun hc=>?_,fun hc=>?_⟩)|simp only [la])
 (exact RetQ.A [(0,0),(1,0)] (by exact ⟨rfl,rfl⟩))
theorem ktake16_ac (k:UInt8) (st:St) (hst:st.2.length≤100000000) :
 AC Tryz.prog 161 [.bp 0 0 0,.bp 1 0 0] [rB st,eZ k 0 0 nl 0 0 nl 0 0 0 nl 0] (fun v bs'=>v=.tu []∧bs'=[rB (takeWhole k st).2,.c tMsg (eG (takeWhole k st).1)]):=by
 refine AC.N Tryz.func161 Tryz.ntmps161 ?_;intro X hρ hmks;refine NX ?_
 repeat' (first|((first|refine wA4 ?_|refine aC2 (rint_ac st hst) ?_)<;>(try refine NX ?_))|refine wT4 ?_|with_reducible intro Q' hQ'|(refine GC ?_;refine ⟨fun hc=>?_,fun hc=>?_⟩)|simp only [la])
 (exact RetQ.A [(0,0),(1,0)] (by exact ⟨rfl,rfl⟩))
theorem entsR_len {p:Int} {k:Nat}:∀ {n i:Nat} {st:St},st.2.length≤k→(entsR p i n st).2.2.length≤k
 | 0,_,_,h=>h
 | n + 1,i,st,h=>entsR_len (n:=n) (i:=i + 1) (restR_len h)
theorem entsR_fst_len (p:Int):∀ (n i:Nat) (st:St),(entsR p i n st).1.length=n
 | 0,_,_=>rfl
 | n + 1,i,st=>by show (_ :: _).length=_;rw [List.length_cons,entsR_fst_len p n]
theorem entsR_snoc (p:Int):∀ (n i:Nat) (st:St),(entsR p i (n + 1) st).1=(entsR p i n st).1 ++ [(restR (IntKind.i64.wrap (p + ((i + n:Nat):Int))) (entsR p i n st).2).1]∧(entsR p i (n + 1) st).2=(restR (IntKind.i64.wrap (p + ((i + n:Nat):Int))) (entsR p i n st).2).2
 | 0,i,st=>⟨rfl,rfl⟩
 | n + 1,i,st=>by
  have h:=entsR_snoc p n (i + 1) (restR (IntKind.i64.wrap (p + i)) st).2;have e:i + 1 + n=i + (n + 1):=by omega
  rw [e] at h;refine ⟨?_,?_⟩
  ·show _ :: (entsR p (i + 1) (n + 1) _).1=_
   rw [h.1];rfl
  ·show (entsR p (i + 1) (n + 1) _).2=_
   rw [h.2];rfl
theorem etake4_ac (k:UInt8) (st:St) (hst:st.2.length≤100000000) :
 AC Tryz.prog 200 [.bp 0 0 0,.bp 1 0 0] [rB st,eZ k 0 0 nl 0 0 nl 0 0 0 nl 0] (fun v bs'=>v=.tu []∧bs'=[rB (takeEnt k st).2,.c tMsg (eG (takeEnt k st).1)]):=by
 have h1:=intR_len hst;have h2:=intR_len h1;have h3:=countR_len (m:=4) h2;obtain ⟨hc0,hc5⟩:=countR_le (m:=4) (st:=(intR (intR st).2).2) (by omega);refine AC.N Tryz.func200 Tryz.ntmps200 ?_;intro X hρ hmks;refine NX ?_
 repeat' (first|((first|refine wA4 ?_|refine aC2 (rint_ac (intR st).2 h1) ?_|refine aC2 (rint_ac st hst) ?_|refine aC2 (rcount_ac 4 _ h2) ?_)<;>(try refine NX ?_))|refine wT4 ?_|with_reducible intro Q' hQ'|(refine GC ?_;refine ⟨fun hc=>?_,fun hc=>?_⟩)|simp only [la])
 refine CP.gh (gh_nilc (j:=1) (u:=0) (off:=6) (e:=tE) (k:=5) rfl rfl) ?_;refine NX ?_;refine CP.gh gh_slot ?_;refine NX ?_
 have h0:takeEnt k st=({ msg0 with kind:=k,upto:=(intR st).1,frm:=(intR (intR st).2).1,entries:=(entsR (intR (intR st).2).1 0 (countR 4 (intR (intR st).2).2).1.toNat (countR 4 (intR (intR st).2).2).2).1 },(entsR (intR (intR st).2).1 0 (countR 4 (intR (intR st).2).2).1.toNat (countR 4 (intR (intR st).2).2).2).2):=rfl;rw [h0];clear h0;obtain ⟨n,hN⟩:∃ n:Nat,(countR 4 (intR (intR st).2).2).1=n:=⟨(countR 4 (intR (intR st).2).2).1.toNat,by omega⟩;rw [hN] at hc5 ⊢;rw [Int.toNat_natCast];generalize (countR 4 (intR (intR st).2).2).2=S0 at h3 ⊢;generalize (intR (intR st).2).1=p;generalize (intR st).1=up;refine cp_loopS [4,17,18,19,20,21,22,23,24,25,26,27,28,29,30,31,32,33,34,35,36,37] (fun a:Nat×Nat×Nat=>n - a.1) (fun a=>a.1≤n) (fun a=>[(17,I a.1)]) (fun a=>[(0,⟨0,rB (entsR p 0 a.1 S0).2⟩),(1,⟨0,eZ k 0 0 nl up p (.hd 2 a.2.1) 0 0 0 nl 0⟩),(2,⟨a.2.1,.r tE 5 ((entsR p 0 a.1 S0).1.map (eE none))⟩),(3,⟨a.2.2,.x⟩)]) (0,1,0) (Nat.zero_le _) (by exact Gh.W) ?_;rintro ⟨i,u,v⟩ hk;simp only [setT,deT,setB,List.set_cons_succ,List.set_cons_zero];dsimp only at hk;have hS:=entsR_len (p:=p) (n:=i) (i:=0) h3;have hL:=entsR_fst_len p i 0 S0;have hs1:=(entsR_snoc p i 0 S0).1;have hs2:=(entsR_snoc p i 0 S0).2;rw [Nat.zero_add] at hs1 hs2
 by_cases hlt:i < n
 ·have hw:IntKind.i64.wrap ((i:Int) + 1)=((i + 1:Nat):Int):=wrap_i64 (by omega) (by omega);generalize hms:entsR p 0 i S0=ms at hS hL hs1 hs2 ⊢;obtain ⟨ml,S⟩:=ms;dsimp only at hS hL hs1 hs2 ⊢;have hlen:(ml.map (eE none)).length + 1≤1000000000:=by rw [List.length_map];omega
  repeat' (first|((first|refine wA4 ?_|refine aC2 (takeRest_ac _ _ hS) ?_|refine wD6 ?_|refine dC5 (takeRest_ac _ _ hS) ?_)<;>(try refine NX ?_))|refine wT5 ?_|with_reducible intro Q' hQ'|(refine GC ?_;refine ⟨fun hc=>?_,fun hc=>?_⟩)|simp only [la])
  ·simp only [hw];refine ⟨(i + 1,u + 1,v + 1),by (dsimp only;omega),by (dsimp only;omega),?_⟩;dsimp only;rw [hs1,hs2,List.map_append,List.map_cons,List.map_nil];exact Gh.W
  ·exfalso;simp at *;omega
 ·obtain rfl:i=n:=by omega
  refine CP.gh (gh_fz (b:=2) (u:=u) rfl rfl (by (repeat' (first|exact FzC.nil|apply FzC.cons|exact FzV.hd|apply FzV.ag|exact FzV.same))) (by (repeat' (first|exact FzB.nil|apply FzB.c|apply FzB.same|exact FzC.nil|apply FzC.cons|exact FzV.hd|apply FzV.ag|exact FzV.same)))) ?_;simp only [ro_E]
  repeat' (first|((first|refine wA4 ?_|refine wD6 ?_)<;>(try refine NX ?_))|refine wT5 ?_|with_reducible intro Q' hQ'|(refine GC ?_;refine ⟨fun hc=>?_,fun hc=>?_⟩)|simp only [la])
  all_goals first
   | (exfalso;simp at *;done)
   | (exfalso;simp at *;omega)
   | (exact RetQ.A [(0,0),(1,0)] (by exact ⟨rfl,rfl⟩))
def takeM (k:UInt8) (st:St):Msg×St:=match k.toNat with
 | 1=>takeAsk k st
 | 2=>takeEnt k st
 | 3=>takeHave k st
 | 4=>takeCfg k st
 | 5=>takeWhole k st
 | 6=>takeAsk k st
 | _=>(msg0,(40,[]))
def readM (b:List UInt8):Msg×St:=takeM (byteR (newR b)).1 (byteR (newR b)).2
def parseM (b:List UInt8):Msg×Int:=if endR (readM b).2=0∧mayM (readM b).1=true then ((readM b).1,0) else (msg0,200)
theorem newR_le {b:List UInt8} {k:Nat} (h:b.length≤k):(newR b).2.length≤k:=by
 unfold newR;split
 ·simp
 ·exact h
theorem parseG_ac (f1 f2 f3 f4:Nat) (b:List UInt8) (hb:b.length≤100000000) (k:UInt8) (S S2:St) (m:Msg) (hr:byteR (newR b)=(k,S)) (hR:readM b=(m,S2))
 (hof:AC Tryz.prog 52 [.ag (eG { msg0 with kind:=k })] [] (fun v bs=>v=.tu [.ag [fnv f1,fnv f2,fnv f3,fnv f4],B true]∧bs=[]))
 (htk:AC Tryz.prog f4 [.bp 0 0 0,.bp 1 0 0] [rB S,eZ k 0 0 nl 0 0 nl 0 0 0 nl 0] (fun v bs'=>v=.tu []∧bs'=[rB S2,.c tMsg (eG m)]))
 (h1:m.entries.length≤100000000) (h2:m.cfg.members.length≤100000000) :
 AC Tryz.prog 19 [bs none b] [] (fun v bs'=>v=.tu [.ag (eG (parseM b).1),I (parseM b).2]∧bs'=[]):=by
 have hrb:=rbyte_ac (newR b) (newR_le hb);rw [hr] at hrb;dsimp only at hrb;have hend:=rend_ac S2;have hm:=mayMsg_ac m h1 h2;unfold parseM;rw [hR];dsimp only;generalize hms:mayM m=mm at hm ⊢;generalize hee:endR S2=ee at hend ⊢
 by_cases hg:ee=0∧mm=true
 ·obtain ⟨rfl,rfl⟩:=hg;refine AC.N Tryz.func19 Tryz.ntmps19 ?_;intro X hρ hmks;refine NX ?_
  repeat' (first|((first|refine wA5 ?_|(refine GA ?_;refine ⟨fun hg=>?_,fun hg=>?_⟩)|refine aC9 (rnew_ac b hb) ?_|refine aC6 hrb ?_|refine aC1 hof ?_|((with_reducible apply AP.k_any);refine ap_callB 0 [(1,1),(2,1)] rfl rfl (fn:=f4) rfl (htk) (by (repeat' (first|exact PasC.nil|apply PasC.nil|apply PasC.cons|apply PasV.leaf rfl|apply PasV.nl|apply PasV.bp rfl|apply PasV.vp rfl|apply PasV.pz|exact VsM.nil|apply VsM.cons rfl|apply PasV.lend rfl rfl rfl|apply PasV.lend rfl rfl (ro_B _)|apply PasV.lend rfl rfl (ro_M _)|apply PasV.lend rfl rfl (ro_E _ _)|apply PasV.lend rfl rfl (ro_I _)|apply PasV.lend rfl rfl (by (simp only [rn,List.map_cons,List.map_nil];first|done|rfl))|apply PasV.mv rfl|apply PasV.hk rfl|apply PasV.ag|apply PasV.fn|exact PasV.fs|apply PasV.any|exact rfl))) (by (repeat' (first|exact ClsC.nil|apply ClsC.nl|apply ClsC.leaf rfl|apply ClsC.hd rfl|apply ClsC.ob rfl|apply ClsC.mo rfl|apply ClsC.mp rfl|apply ClsC.hp rfl|exact Out.nil|apply Out.cons rfl|apply Out.r rfl|apply Out.f rfl|apply ClsC.fn|apply ClsC.fz rfl (ro_B _)|apply ClsC.fz rfl (ro_M _)|apply ClsC.fz rfl (ro_E _ _)|apply ClsC.fz rfl rfl))) rfl (by (repeat' (first|exact Bk.nil|apply Bk.cF rfl rfl|(apply Bk.cN rfl;(try refine NX ?_);apply BkN.mk rfl)|apply Bk.r rfl))) (by (repeat' (first|exact RnV.leaf rfl|exact RnV.fs|exact RnC.nil|apply RnC.cons|apply RnV.ag|apply RnV.tu|apply RnV.fn|exact RnV.bp rfl))) rfl ?_)|refine aC6 hend ?_|refine aC1 hm ?_)<;>(try refine NX ?_))|refine wT4 ?_|with_reducible intro Q' hQ'|(refine GC ?_;refine ⟨fun hc=>?_,fun hc=>?_⟩)|simp only [la])
  all_goals first
   | (exfalso;simp at *;done)
   | (exact RetQ.A [] (by exact ⟨rfl,rfl⟩))
 ·rw [if_neg hg];refine AC.N Tryz.func19 Tryz.ntmps19 ?_;intro X hρ hmks;refine NX ?_
  repeat' (first|((first|refine wA5 ?_|(refine GA ?_;refine ⟨fun hg=>?_,fun hg=>?_⟩)|refine aC9 (rnew_ac b hb) ?_|refine aC6 hrb ?_|refine aC1 hof ?_|((with_reducible apply AP.k_any);refine ap_callB 0 [(1,1),(2,1)] rfl rfl (fn:=f4) rfl (htk) (by (repeat' (first|exact PasC.nil|apply PasC.nil|apply PasC.cons|apply PasV.leaf rfl|apply PasV.nl|apply PasV.bp rfl|apply PasV.vp rfl|apply PasV.pz|exact VsM.nil|apply VsM.cons rfl|apply PasV.lend rfl rfl rfl|apply PasV.lend rfl rfl (ro_B _)|apply PasV.lend rfl rfl (ro_M _)|apply PasV.lend rfl rfl (ro_E _ _)|apply PasV.lend rfl rfl (ro_I _)|apply PasV.lend rfl rfl (by (simp only [rn,List.map_cons,List.map_nil];first|done|rfl))|apply PasV.mv rfl|apply PasV.hk rfl|apply PasV.ag|apply PasV.fn|exact PasV.fs|apply PasV.any|exact rfl))) (by (repeat' (first|exact ClsC.nil|apply ClsC.nl|apply ClsC.leaf rfl|apply ClsC.hd rfl|apply ClsC.ob rfl|apply ClsC.mo rfl|apply ClsC.mp rfl|apply ClsC.hp rfl|exact Out.nil|apply Out.cons rfl|apply Out.r rfl|apply Out.f rfl|apply ClsC.fn|apply ClsC.fz rfl (ro_B _)|apply ClsC.fz rfl (ro_M _)|apply ClsC.fz rfl (ro_E _ _)|apply ClsC.fz rfl rfl))) rfl (by (repeat' (first|exact Bk.nil|apply Bk.cF rfl rfl|(apply Bk.cN rfl;(try refine NX ?_);apply BkN.mk rfl)|apply Bk.r rfl))) (by (repeat' (first|exact RnV.leaf rfl|exact RnV.fs|exact RnC.nil|apply RnC.cons|apply RnV.ag|apply RnV.tu|apply RnV.fn|exact RnV.bp rfl))) rfl ?_)|refine aC6 hend ?_|refine aC1 hm ?_)<;>(try refine NX ?_))|refine wT4 ?_|with_reducible intro Q' hQ'|(refine GC ?_;refine ⟨fun hc=>?_,fun hc=>?_⟩)|simp only [la])
  all_goals first
   | (exfalso;simp at *;done)
   | (exfalso;simp at *;simp_all;done)
   | (exact RetQ.A [] (by exact ⟨rfl,rfl⟩))
theorem parse_ac (b:List UInt8) (hb:b.length≤100000000):AC Tryz.prog 19 [bs none b] [] (fun v bs'=>v=.tu [.ag (eG (parseM b).1),I (parseM b).2]∧bs'=[]):=by
 rcases kind_cases (byteR (newR b)).1 with hk|hk|hk|hk|hk|hk|hk
 ·exact parseG_ac _ _ _ _ b hb _ _ (takeAsk (byteR (newR b)).1 (byteR (newR b)).2).2 (takeAsk (byteR (newR b)).1 (byteR (newR b)).2).1 rfl (by simp only [readM,takeM,hk]) (of1_ac { msg0 with kind:=(byteR (newR b)).1 } hk) (ktake4_ac _ _ (byteR_len (newR_le hb))) (by simp [takeAsk,msg0]) (by simp [takeAsk,msg0,cfg0])
 ·exact parseG_ac _ _ _ _ b hb _ _ (takeEnt (byteR (newR b)).1 (byteR (newR b)).2).2 (takeEnt (byteR (newR b)).1 (byteR (newR b)).2).1 rfl (by simp only [readM,takeM,hk]) (of2_ac { msg0 with kind:=(byteR (newR b)).1 } hk) (etake4_ac _ _ (byteR_len (newR_le hb))) (by simp [takeEnt,entsR_fst_len];have:=countR_le (m:=4) (st:=(intR (intR (byteR (newR b)).2).2).2) (by omega);omega) (by simp [takeEnt,msg0,cfg0])
 ·exact parseG_ac _ _ _ _ b hb _ _ (takeHave (byteR (newR b)).1 (byteR (newR b)).2).2 (takeHave (byteR (newR b)).1 (byteR (newR b)).2).1 rfl (by simp only [readM,takeM,hk]) (of3_ac { msg0 with kind:=(byteR (newR b)).1 } hk) (ktake8_ac _ _ (byteR_len (newR_le hb))) (by simp [takeHave,msg0]) (by simp [takeHave,msg0,cfg0])
 ·exact parseG_ac _ _ _ _ b hb _ _ (takeCfg (byteR (newR b)).1 (byteR (newR b)).2).2 (takeCfg (byteR (newR b)).1 (byteR (newR b)).2).1 rfl (by simp only [readM,takeM,hk]) (of4_ac { msg0 with kind:=(byteR (newR b)).1 } hk) (ktake12_ac _ _ (byteR_len (newR_le hb))) (by simp [takeCfg,msg0]) (by simp [takeCfg,configR];rw [memsR_fst_len];have:=countR_le (m:=5) (st:=(intR (byteR (newR b)).2).2) (by omega);omega)
 ·exact parseG_ac _ _ _ _ b hb _ _ (takeWhole (byteR (newR b)).1 (byteR (newR b)).2).2 (takeWhole (byteR (newR b)).1 (byteR (newR b)).2).1 rfl (by simp only [readM,takeM,hk]) (of5_ac { msg0 with kind:=(byteR (newR b)).1 } hk) (ktake16_ac _ _ (byteR_len (newR_le hb))) (by simp [takeWhole,msg0]) (by simp [takeWhole,msg0,cfg0])
 ·exact parseG_ac _ _ _ _ b hb _ _ (takeAsk (byteR (newR b)).1 (byteR (newR b)).2).2 (takeAsk (byteR (newR b)).1 (byteR (newR b)).2).1 rfl (by simp only [readM,takeM,hk]) (of6_ac { msg0 with kind:=(byteR (newR b)).1 } hk) (ktake4_ac _ _ (byteR_len (newR_le hb))) (by simp [takeAsk,msg0]) (by simp [takeAsk,msg0,cfg0])
 ·have hn:=newR_le hb;have hof:=ofNo_ac { msg0 with kind:=(byteR (newR b)).1 } hk;have hrb:=rbyte_ac (newR b) hn
  have hR:readM b=(msg0,(40,[])):=by
   unfold readM takeM;split<;>first|omega|rfl
  have hP:parseM b=(msg0,200):=by rw [parseM,hR,if_neg (by simp [endR])]
  rw [hP];generalize (byteR (newR b)).2=S at hrb ⊢;generalize (byteR (newR b)).1=k at hof hrb ⊢;refine AC.N Tryz.func19 Tryz.ntmps19 ?_;intro X hρ hmks;refine NX ?_
  repeat' (first|((first|refine wA5 ?_|(refine GA ?_;refine ⟨fun hg=>?_,fun hg=>?_⟩)|refine aC9 (rnew_ac b hb) ?_|refine aC6 hrb ?_|refine aC1 hof ?_)<;>(try refine NX ?_))|refine wT4 ?_|with_reducible intro Q' hQ'|(refine GC ?_;refine ⟨fun hc=>?_,fun hc=>?_⟩)|simp only [la])
  all_goals first
   | (exfalso;simp at *;done)
   | (exact RetQ.A [] (by exact ⟨rfl,rfl⟩))
end Go.Proofs.YtifebijohmlnbaaGreat
