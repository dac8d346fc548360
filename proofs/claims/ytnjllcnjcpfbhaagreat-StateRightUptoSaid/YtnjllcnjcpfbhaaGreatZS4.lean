/- Parts. -/
import Derived.Test.YtnjllcnjcpfbhaaGreatZS3
import Derived.Lib.AppendZerosOnto
import Derived.Lib.Overlaps
import Derived.Lib.SliceRun
import Derived.Scope
namespace Go.Proofs.YtnjllcnjcpfbhaaGreat
set_option linter.unusedVariables false
set_option linter.unusedSimpArgs false
open Go.RowKit Tryz
set_option maxRecDepth 100000
set_option maxHeartbeats 8000000
theorem wN1 {G G':Prop} (K:G') (h:G'->G:=by (intro kz;simp only [q1,q2,nq,Nat.reduceBEq,Nat.reduceAdd,Nat.reduceSub];exact kz)):G:=h K
theorem wN0 {G G':Prop} (K:G') (h:G'->G:=by (intro kz;simp only [q1,nq,Nat.reduceBEq,Nat.reduceAdd,Nat.reduceSub];exact kz)):G:=h K
theorem wN20 {G G':Prop} (K:G') (h:G'->G:=by (intro kz;simp only [q3,nq,Nat.reduceBEq,Nat.reduceAdd,Nat.reduceSub];exact kz)):G:=h K
theorem wN18 {G G':Prop} (K:G') (h:G'->G:=by (intro kz;simp only [q1,q2,q3,nq,Nat.reduceBEq,Nat.reduceAdd,Nat.reduceSub];exact kz)):G:=h K
theorem putS_take (x:Nat):∀ (n i:Nat),i < n->(putS x n).take (i + 1)=(putS x n).take i ++ [UInt8.ofNat (x / 256 ^ (n - 1 - i) % 256)]
 | n + 1,0,_=>by simp [putS]
 | n + 1,i + 1,h=>by
  have:=putS_take x n i (by omega);simp only [putS,List.take_succ_cons,List.cons_append];rw [this,show n + 1 - 1 - (i + 1)=n - 1 - i by omega]
theorem rput_ac (x n:Nat) (hn:n<=8) (hx:x < 18446744073709551616) :
 AF 160 [.sc (.int .u64 (x:Int)),I n] (bs (some tU) (putS x n)):=by
 have hpl:=putS_length x n;refine AC.E func160 ntmps160 ?_;intros
 repeat' (first|((first|refine wA2 ?_)<;>try refine NX ?_)|refine wT2 ?_|with_reducible intro Q' hQ'|(refine GC ?_ ?_<;>intro hc)|simp only [laq])
 refine CP.gh (gh_nil (t:=5) (e:=tU) (k:=1) rfl) ?_;refine NX ?_;refine CP.gh gh_slot ?_;refine NX ?_;refine cp_loopS [5,6,7,8,9,10,11,12,13,14,15,16,17,18,19,20,21,22,23,24,25,26,27,28,29] (fun a:Nat×Nat×Nat=>n - a.1) (fun a=>a.1<=n) (fun a=>[(6,I a.1),(5,.hd 0 a.2.1)]) (fun a=>[(0,⟨a.2.1,.r tU 1 (((putS x n).take a.1).map eB)⟩),(1,⟨a.2.2,.x⟩)]) (0,1,0) (Nat.zero_le _) (by exact Gh.W) ?_;rintro ⟨i,u,v⟩ hi;refine ST0 ?_;dsimp only at hi
 by_cases hlt:i < n
 ·have hw:IntKind.i64.wrap ((i:Int) + 1)=((i + 1:Nat):Int):=wrap_i64 (by omega) (by omega);have hw1:IntKind.i64.wrap ((n:Int) - 1)=((n - 1:Nat):Int):=by rw [wrap_i64 (by omega) (by omega)];omega
  have hlen:(((putS x n).take i).map eB).length + 1<=1000000000:=by simp;omega
  repeat' (first|((first|refine wA2 ?_)<;>try refine NX ?_)|refine wT2 ?_|with_reducible intro Q' hQ'|(refine GC ?_ ?_<;>intro hc)|simp only [laq])
  ·refine cp_loopS [7,8,16,17,18,19,20,21,22,23] (fun k:Nat=>n - 1 - k) (fun k=>i<=k/\k<=n - 1) (fun k=>[(7,.sc (.int .u64 ((x / 256 ^ (k - i):Nat):Int))),(8,I k)]) (fun _=>[]) i ⟨Nat.le_refl _,by omega⟩ (by (simp only [Nat.sub_self,Nat.pow_zero,Nat.div_one]);exact Gh.W) ?_;rintro k ⟨hk1,hk2⟩;refine ST0 ?_
   by_cases hlk:k < n - 1
   ·have hwk:IntKind.i64.wrap ((k:Int) + 1)=((k + 1:Nat):Int):=wrap_i64 (by omega) (by omega)
    have hq:IntKind.u64.wrap (((x / 256 ^ (k - i):Nat):Int).tdiv 256)=((x / 256 ^ (k + 1 - i):Nat):Int):=by
     have e1:x / 256 ^ (k + 1 - i)=x / 256 ^ (k - i) / 256:=by rw [show k + 1 - i=(k - i) + 1 by omega,Nat.pow_succ,Nat.div_div_eq_div_mul]
     have e2:x / 256 ^ (k - i)<=x:=Nat.div_le_self _ _;rw [e1,show (256:Int)=((256:Nat):Int) from rfl,←Int.ofNat_tdiv];generalize x / 256 ^ (k - i)=y at e2;simp [IntKind.wrap,IntKind.bits,IntKind.signed];omega
    repeat' (first|((first|refine wA2 ?_)<;>try refine NX ?_)|refine wT2 ?_|with_reducible intro Q' hQ'|(refine GC ?_ ?_<;>intro hc)|simp only [laq])
    ·simp only [hwk,hq];exact ⟨k + 1,by omega,⟨by omega,by omega⟩,by exact Gh.W⟩
    ·exfalso;simp [hw1] at *;omega
   ·obtain rfl:k=n - 1:=by omega
    have hr:IntKind.u8.wrap (((x / 256 ^ (n - 1 - i):Nat):Int).tmod 256)=((UInt8.ofNat (x / 256 ^ (n - 1 - i) % 256)).toNat:Int):=by
     rw [show (256:Int)=((256:Nat):Int) from rfl,←Int.ofNat_tmod,UInt8.toNat_ofNat'];simp [IntKind.wrap,IntKind.bits,IntKind.signed]
    repeat' (first|((first|refine wA2 ?_)<;>try refine NX ?_)|refine wT2 ?_|with_reducible intro Q' hQ'|(refine GC ?_ ?_<;>intro hc)|simp only [laq])
    ·exfalso;simp [hw1] at *
    ·simp only [hw,hr];refine ⟨(i + 1,u + 1,v + 1),by (dsimp only;omega),by (dsimp only;omega),?_⟩;dsimp only;rw [putS_take x n i hlt,List.map_append,List.map_cons,List.map_nil];exact Gh.W
  ·exfalso;simp at *;omega
 ·obtain rfl:i=n:=by omega
  rw [List.take_of_length_le (by omega)]
  repeat' (first|((first|refine wA2 ?_)<;>try refine NX ?_)|refine wT2 ?_|with_reducible intro Q' hQ'|(refine GC ?_ ?_<;>intro hc)|simp only [laq])
  all_goals first
   | (exfalso;simp at *;done)
   | (exfalso;simp at *;omega)
   | (refine RB1 ?_;(exact ⟨rfl,rfl⟩))
theorem cat_ac (a b:List UInt8) (ha:a.length<=100000000) (hb:b.length<=100000000) :
 AF 155 [bs none a,bs none b] (bs (some tU) (a ++ b)):=by
 refine AC.E func155 ntmps155 ?_;intros
 repeat' (first|((first|refine wA2 ?_)<;>try refine NX ?_)|refine wT2 ?_|with_reducible intro Q' hQ'|(refine GC ?_ ?_<;>intro hc)|simp only [laq])
 (refine RB1 ?_;(exact ⟨by simp,rfl⟩))
theorem copy_ac (a:List UInt8) (ha:a.length<=100000000) :
 AF 209 [bs none a] (bs (some tU) a):=by
 refine AC.E func209 ntmps209 ?_;intros
 repeat' (first|((first|refine wA2 ?_|refine aC1 (cat_ac a [] ha (by simp)) ?_)<;>try refine NX ?_)|refine wT2 ?_|with_reducible intro Q' hQ'|(refine GC ?_ ?_<;>intro hc)|simp only [laq])
 (refine RB1 ?_;(exact ⟨by simp,rfl⟩))
abbrev z32:List UInt8:=List.replicate 32 0
abbrev tSg:TypeId:=9
structure Lnk where
 n:Int
 st:Int
 op:UInt8
 ten:Int
 a:Int
 b:Int
 c:Int
 ahead:List UInt8
 self:List UInt8
structure Rep where
 err:Int
 val:List UInt8
 keys:List (List UInt8)
 n:Int
 lnk:Lnk
abbrev S (l:List UInt8):AV:=.sc (str l)
abbrev eT (l:List UInt8):List AV:=[S l]
abbrev ts (o:Option TypeId) (l:List (List UInt8)):AV:=.sl o 1 (l.map eT)
abbrev eLk (x:Lnk):List AV:=[I x.n,I x.st,U x.op,I x.ten,I x.a,I x.b,I x.c,U (x.ahead.getD 0 0),U (x.ahead.getD 1 0),U (x.ahead.getD 2 0),U (x.ahead.getD 3 0),U (x.ahead.getD 4 0),U (x.ahead.getD 5 0),U (x.ahead.getD 6 0),U (x.ahead.getD 7 0),U (x.ahead.getD 8 0),U (x.ahead.getD 9 0),U (x.ahead.getD 10 0),U (x.ahead.getD 11 0),U (x.ahead.getD 12 0),U (x.ahead.getD 13 0),U (x.ahead.getD 14 0),U (x.ahead.getD 15 0),U (x.ahead.getD 16 0),U (x.ahead.getD 17 0),U (x.ahead.getD 18 0),U (x.ahead.getD 19 0),U (x.ahead.getD 20 0),U (x.ahead.getD 21 0),U (x.ahead.getD 22 0),U (x.ahead.getD 23 0),U (x.ahead.getD 24 0),U (x.ahead.getD 25 0),U (x.ahead.getD 26 0),U (x.ahead.getD 27 0),U (x.ahead.getD 28 0),U (x.ahead.getD 29 0),U (x.ahead.getD 30 0),U (x.ahead.getD 31 0),U (x.self.getD 0 0),U (x.self.getD 1 0),U (x.self.getD 2 0),U (x.self.getD 3 0),U (x.self.getD 4 0),U (x.self.getD 5 0),U (x.self.getD 6 0),U (x.self.getD 7 0),U (x.self.getD 8 0),U (x.self.getD 9 0),U (x.self.getD 10 0),U (x.self.getD 11 0),U (x.self.getD 12 0),U (x.self.getD 13 0),U (x.self.getD 14 0),U (x.self.getD 15 0),U (x.self.getD 16 0),U (x.self.getD 17 0),U (x.self.getD 18 0),U (x.self.getD 19 0),U (x.self.getD 20 0),U (x.self.getD 21 0),U (x.self.getD 22 0),U (x.self.getD 23 0),U (x.self.getD 24 0),U (x.self.getD 25 0),U (x.self.getD 26 0),U (x.self.getD 27 0),U (x.self.getD 28 0),U (x.self.getD 29 0),U (x.self.getD 30 0),U (x.self.getD 31 0)]
abbrev eRpO (o:Option TypeId) (r:Rep):List AV:=[I r.err,S r.val,ts o r.keys,I r.n,I r.lnk.n,I r.lnk.st,U r.lnk.op,I r.lnk.ten,I r.lnk.a,I r.lnk.b,I r.lnk.c,U (r.lnk.ahead.getD 0 0),U (r.lnk.ahead.getD 1 0),U (r.lnk.ahead.getD 2 0),U (r.lnk.ahead.getD 3 0),U (r.lnk.ahead.getD 4 0),U (r.lnk.ahead.getD 5 0),U (r.lnk.ahead.getD 6 0),U (r.lnk.ahead.getD 7 0),U (r.lnk.ahead.getD 8 0),U (r.lnk.ahead.getD 9 0),U (r.lnk.ahead.getD 10 0),U (r.lnk.ahead.getD 11 0),U (r.lnk.ahead.getD 12 0),U (r.lnk.ahead.getD 13 0),U (r.lnk.ahead.getD 14 0),U (r.lnk.ahead.getD 15 0),U (r.lnk.ahead.getD 16 0),U (r.lnk.ahead.getD 17 0),U (r.lnk.ahead.getD 18 0),U (r.lnk.ahead.getD 19 0),U (r.lnk.ahead.getD 20 0),U (r.lnk.ahead.getD 21 0),U (r.lnk.ahead.getD 22 0),U (r.lnk.ahead.getD 23 0),U (r.lnk.ahead.getD 24 0),U (r.lnk.ahead.getD 25 0),U (r.lnk.ahead.getD 26 0),U (r.lnk.ahead.getD 27 0),U (r.lnk.ahead.getD 28 0),U (r.lnk.ahead.getD 29 0),U (r.lnk.ahead.getD 30 0),U (r.lnk.ahead.getD 31 0),U (r.lnk.self.getD 0 0),U (r.lnk.self.getD 1 0),U (r.lnk.self.getD 2 0),U (r.lnk.self.getD 3 0),U (r.lnk.self.getD 4 0),U (r.lnk.self.getD 5 0),U (r.lnk.self.getD 6 0),U (r.lnk.self.getD 7 0),U (r.lnk.self.getD 8 0),U (r.lnk.self.getD 9 0),U (r.lnk.self.getD 10 0),U (r.lnk.self.getD 11 0),U (r.lnk.self.getD 12 0),U (r.lnk.self.getD 13 0),U (r.lnk.self.getD 14 0),U (r.lnk.self.getD 15 0),U (r.lnk.self.getD 16 0),U (r.lnk.self.getD 17 0),U (r.lnk.self.getD 18 0),U (r.lnk.self.getD 19 0),U (r.lnk.self.getD 20 0),U (r.lnk.self.getD 21 0),U (r.lnk.self.getD 22 0),U (r.lnk.self.getD 23 0),U (r.lnk.self.getD 24 0),U (r.lnk.self.getD 25 0),U (r.lnk.self.getD 26 0),U (r.lnk.self.getD 27 0),U (r.lnk.self.getD 28 0),U (r.lnk.self.getD 29 0),U (r.lnk.self.getD 30 0),U (r.lnk.self.getD 31 0)]
abbrev eRp (r:Rep):List AV:=eRpO none r
def lk0:Lnk:=⟨0,0,0,0,0,0,0,z32,z32⟩
def rp0:Rep:=⟨0,[],[],0,lk0⟩
structure Member where
 node:Int
 since:Int
 whole:Bool
structure Entry where
 pos:Int
 stamp:Int
 client:Int
 id:Int
 body:List UInt8
abbrev eM (m:Member):List AV:=[I m.node,I m.since,B m.whole]
abbrev eE (o:Option TypeId) (e:Entry):List AV:=[I e.pos,I e.stamp,I e.client,I e.id,bs o e.body]
theorem ro_M (l:List Member):roE (l.map eM)=l.map eM:=by rw [roE_map];rfl
theorem ro_E (q:Option TypeId) (l:List Entry):roE (l.map (eE q))=l.map (eE none):=by
 rw [roE_map];refine List.map_congr_left fun x _=>?_
 simp only [eE,roC,AV.ro,ro_B]
abbrev eI (x:Int):List AV:=[I x]
theorem ro_I (l:List Int):roE (l.map eI)=l.map eI:=by rw [roE_map];rfl
theorem wrap_u64_lt (n:Int):(IntKind.u64.wrap n).toNat < 18446744073709551616:=by
 simp [IntKind.wrap,IntKind.bits,IntKind.signed];omega
theorem dint_ac (n:Int):AF 93 [I n] (bs none (intS n)):=by
 have h:=(rput_ac (IntKind.u64.wrap n).toNat 8 (by omega) (wrap_u64_lt n)).ro (r2:=bs none (intS n)) (by simp [AV.ro,ro_B,intS]);rw [←u64_nn] at h;refine AC.E func93 ntmps93 ?_;intros
 repeat' (first|((first|refine wA2 ?_|refine aC1 h ?_)<;>try refine NX ?_)|refine wT2 ?_|with_reducible intro Q' hQ'|(refine GC ?_ ?_<;>intro hc)|simp only [laq])
 (refine RB1 ?_;(exact ⟨rfl,rfl⟩))
theorem dbytes_ac (b:List UInt8) (hb:b.length<=10000000):AF 92 [bs none b] (bs (some tU) (putS b.length 4 ++ b)):=by
 have hw:IntKind.u64.wrap (b.length:Int)=(b.length:Int):=by simp [IntKind.wrap,IntKind.bits,IntKind.signed];omega
 have h:=(rput_ac b.length 4 (by omega) (by omega)).ro (r2:=bs none (putS b.length 4)) (by simp [AV.ro,ro_B]);rw [←hw] at h;have h2:=cat_ac (putS b.length 4) b (by simp [putS_length]) (by omega);refine AC.E func92 ntmps92 ?_;intros
 repeat' (first|((first|refine wA2 ?_|refine aC1 h ?_|refine aC1 h2 ?_)<;>try refine NX ?_)|refine wT2 ?_|with_reducible intro Q' hQ'|(refine GC ?_ ?_<;>intro hc)|simp only [laq])
 (refine RB1 ?_;(exact ⟨rfl,rfl⟩))
def numS (l:List Int):List UInt8:=(l.map intS).flatten
theorem intS_length (n:Int):(intS n).length=8:=putS_length _ _
theorem numS_length (l:List Int):(numS l).length=8 * l.length:=by
 induction l with
 | nil=>rfl
 | cons a l ih=>simp only [numS,List.map_cons,List.flatten_cons,List.length_append,List.length_cons,intS_length] at ih ⊢;omega
theorem numS_snoc (l:List Int) (x:Int):numS (l ++ [x])=numS l ++ intS x:=by simp [numS]
section
variable {X:Cx} {φ φ':Fi} {κ κ':Ka} {f:Nat->Ct} {L L':Ct} {s s':AS} {a:Act} {w w':World} {o:Oper} {ops:Array Oper} {rest:List Oper} {Q:Exit->AS->Prop}
theorem RE.fl {k:Nat} {R:Nat->Prop}:∀ {rows:List (List AV)} {us:List Value} {S:Ct},RE w φ κ R k rows us S->(∀ c∈rows,ntC c=true)->RC w φ κ R rows.flatten us Ct.z/\S=Ct.z
 | _,_,_,.nil,_=>⟨.nil,rfl⟩
 | _,_,_,.cons h1 h2 h3 h4 h5,hn=>by
  have e1:=RC.nt h1 (hn _ (by simp));subst e1;obtain ⟨a,rfl⟩:=RE.fl h4 fun c hc=>hn c (by simp [hc])
  exact ⟨by rw [List.flatten_cons];exact h1.append a fun _=>rfl,funext fun x=>by rw [h5 x];rfl⟩
theorem RC.de_ {R:Nat->Prop}:∀ (us:List Value),RC w φ κ R (List.replicate us.length .de) us Ct.z
 | []=>.nil
 | u :: us=>.cons (S:=Ct.z) (T:=Ct.z) .de (RC.de_ us) fun _=>rfl
theorem put_same {t:Nat} {p:Value} (hp:a.tmps.getD t undef=p) (ht:t < a.tmps.size):a.put (some t) p=a:=by
 have e:a.tmps.setIfInBounds t p=a.tmps:=by
  rw [Array.getD_eq_getD_getElem?,Array.getElem?_eq_getElem ht] at hp;simp only [Option.getD_some] at hp;apply Array.ext
  ·simp
  ·intro i h2 h3;rw [Array.getElem_setIfInBounds]
   ·split
    ·rename_i hi;subst hi;exact hp.symm
    ·rfl
 show ({ tmps:=a.tmps.setIfInBounds t p,defers:=a.defers }:Act)=a
 rw [e]
abbrev bxL (k:Nat) (rows:List (List AV)) (c:Nat):List AV:=rows.flatten ++ List.replicate ((c - rows.length) * k) .de
def sbs (av:AV) (t:List AV) (ts:List Nat):List AV:=ts.foldl (fun t i=>t.set i av) t
theorem SatW.sbs (h:SatW X φ κ f L s a w) {b:List Sl} {j u k n c g:Nat} {av:AV} (hb:s.b=b) (hav:RV w φ κ X.R av (.slice (some ⟨g,0,none⟩) n c) Ct.z):∀ (ts:List Nat),(∀ t∈ts,t < a.tmps.size/\a.tmps.getD t undef=.slice (some ⟨g,0,none⟩) n c)->SatW X φ κ f L ⟨Go.Proofs.YtnjllcnjcpfbhaaGreat.sbs av s.t ts,b⟩ a w:=by
 intro ts;subst hb
 induction ts generalizing s with
 | nil=>exact fun _=>h
 | cons t ts ih=>
  intro ht;have h1:=ht t (by simp);have h2:=h.put t hav;rw [put_same h1.2 h1.1] at h2;exact ih h2 fun t' ht'=>ht t' (by simp [ht'])
theorem sat_box {ts:List Nat} {j u e k:Nat} {rows:List (List AV)} (ht:ts.all (fun t=>match s.t.getD t .de with | .hd j' u'=>Nat.beq j' j && Nat.beq u' u | _=>false)=true) (hts:ts≠[]) (hj:s.b[j]? = some ⟨u,.r e k rows⟩) (hne:rows≠[]) (heU:e≠5) (hnt:∀ c∈rows,ntC c=true)
 (hs:Sat X s a w):∃ cap,rows.length<=cap/\cap<=maxLen/\Sat X ⟨sbs (.sb j (u + 1) k 0 rows.length cap) s.t ts,s.b.set j ⟨u + 1,.w e (bxL k rows cap)⟩⟩ a w:=by
 obtain ⟨X0,φ,κ,f,hX0,h⟩:=hs
 have hta:∀ t∈ts,s.t.getD t .de=.hd j u:=fun t h1=>by
  have:=List.all_eq_true.1 ht t h1
  revert this
  cases s.t.getD t .de<;>intro h2<;>first|(cases h2;done)|skip
  simp only [Bool.and_eq_true] at h2;rw [Nat.eq_of_beq_eq_true h2.1,Nat.eq_of_beq_eq_true h2.2]
 obtain ⟨t0,ht0⟩:=List.exists_mem_of_ne_nil _ hts;have htm:=h.tmp t0;rw [hta t0 ht0] at htm;obtain ⟨hrs,ht2⟩:=h.take hj .x fun _ _=>.x
 have hjl:j < s.b.length:=(List.getElem?_eq_some_iff.1 hj).1;have hone:∀ x,f j x<=1:=fun x=>by have:=sumF_le f x _ j hjl;have:=h.one x;omega
 generalize hF:f j=F at hrs ht2;rw [hF] at hone;generalize hp:a.tmps.getD t0 undef=p at htm
 cases htm with
 | hd hκ _=>
  cases hrs with
  | r hκ' hv=>
   rw [hκ] at hκ';injection hκ' with e0;subst e0
   cases hv with
   | ni=>exact absurd rfl hne
   | ne=>exact absurd rfl hne
   | @om _ _ _ g cap cur us S _ hre hmk hle hm hsz htk hS=>
    have hg0:=hmk.z0 heU;have hgl:=hmk.lt;obtain ⟨hfl,rfl⟩:=hre.fl hnt;have hus:=hre.length;have hcl:cur.toList=us ++ cur.toList.drop (rows.length * k):=by rw [←htk,List.take_append_drop]
    have hdl:(cur.toList.drop (rows.length * k)).length=(cap - rows.length) * k:=by rw [List.length_drop,Array.length_toList,hsz,Nat.sub_mul]
    have hrc:∀ φ' κ',(∀ b u g,φ b u=some g->φ' b u=some g)->(∀ b u v,κ b u=some v->κ' b u=some v)->RC w φ' κ' X0.R (bxL k rows cap) cur.toList Ct.z:=fun φ' κ' h1 h2=>by
     rw [hcl];have:=RC.de_ (w:=w) (φ:=φ') (κ:=κ') (R:=X0.R) (cur.toList.drop (rows.length * k));rw [hdl] at this;exact (RC.hist h1 h2 (fun _ h=>h) hfl).append this fun _=>rfl
    have hbx:(s.b.set j ⟨u,.x⟩)[j]? = some ⟨u,.x⟩:=List.getElem?_set_self hjl
    obtain ⟨φ',κ',f',e1,e2,e3,e4,e5⟩:=ht2.newAt (w':=w) (B:=.w e (bxL k rows cap)) (g:=fun x=>if x=g then 1 else 0) (L':=Ct.z) hbx (some g) none (Nat.le_refl _) rfl rfl rfl (fun _ _ _=>rfl)
     (fun φ' κ' a1 a2 a3 a4=>.w a3 (by simpa using hg0) (hrc φ' κ' a1 a2) (fun i av v hi hv hd=>by
       by_cases hil:i < us.length
       ·rw [hcl,List.getElem?_append_left hil] at hv;exact hre.one v (List.mem_of_getElem? hv)
       ·have hfl':=hfl.length;rw [List.getElem?_append_right (by omega)] at hi;rw [List.getElem?_replicate] at hi;split at hi
        ·injection hi with hi;subst hi;cases hd
        ·cases hi) fun _=>rfl)
     (fun x _=>by have:=hS x;simp only [Ct.z] at this ⊢;omega) (fun x hx=>by
       simp only [Ct.z];split
       ·omega
       ·simp)
    rw [List.set_set] at e5;refine ⟨cap,hle,hm,X0,φ',κ',f',hX0,e5.sbs (av:=.sb j (u + 1) k 0 rows.length cap) (j:=0) (u:=0) (k:=0) rfl (.sb e3 hle hm) ts fun t ht1=>?_⟩
    have htl:t < s.t.length:=by
     rcases Nat.lt_or_ge t s.t.length with h1|h1
     ·exact h1
     ·have h2:=hta t ht1;rw [List.getD_eq_getElem?_getD,List.getElem?_eq_none h1] at h2;cases h2
    have hl:=h.size;refine ⟨by omega,?_⟩;have h3:=h.tmp t;rw [hta t ht1] at h3;generalize a.tmps.getD t undef=q at h3
    cases h3 with
    | hd hκ2 _=>rw [hκ] at hκ2;injection hκ2 with e9;exact e9.symm
theorem ap_boxW {l:List Oper} (ts:List Nat) {j u e k:Nat} {rows:List (List AV)} (ht:ts.all (fun t=>match s.t.getD t .de with | .hd j' u'=>Nat.beq j' j && Nat.beq u' u | _=>false)=true) (hts:ts≠[]) (hj:s.b[j]? = some ⟨u,.r e k rows⟩) (hne:rows≠[]) (heU:e≠5) (hnt:∀ c∈rows,ntC c=true)
 (K:∀ cap,rows.length<=cap->cap<=maxLen->AP prog X ops Q l ⟨sbs (.sb j (u + 1) k 0 rows.length cap) s.t ts,s.b.set j ⟨u + 1,.w e (bxL k rows cap)⟩⟩):AP prog X ops Q l s:=fun a w hs=>by
 obtain ⟨cap,h1,h2,h3⟩:=sat_box ht hts hj hne heU hnt hs;exact K cap h1 h2 a w h3
theorem RE.unfl {k:Nat} {R:Nat->Prop}:∀ {rows:List (List AV)} {us:List Value},RC w φ κ R rows.flatten us Ct.z->(∀ r∈rows,r.length=k)->(∀ u∈us,u.oneCell'=true)->(∀ r∈rows,∀ x∈r,x.leaf=true)->RE w φ κ R k rows us Ct.z
 | [],us,h,_,_,_=>by cases h;exact .nil
 | r :: rows,us,h,hk,h1,hl=>by
  have hr:r.length=k:=hk r (by simp);have a1:=h.take_ k;have a2:=h.dropA k;have e1:(r :: rows).flatten.take k=r:=by rw [List.flatten_cons,List.take_left' hr]
  have e2:(r :: rows).flatten.drop k=rows.flatten:=by rw [List.flatten_cons,List.drop_left' hr]
  rw [e1] at a1;rw [e2] at a2;have e3:us=us.take k ++ us.drop k:=(List.take_append_drop k us).symm;rw [e3];exact .cons (S:=Ct.z) (T:=Ct.z) a1 (by rw [a1.length,hr]) ⟨fun u hu=>h1 u (List.mem_of_mem_take hu),fun x hx=>hl r (by simp) x hx⟩ (RE.unfl a2 (fun r hr=>hk r (by simp [hr])) (fun u hu=>h1 u (List.mem_of_mem_drop hu)) fun r hr=>hl r (by simp [hr])) fun _=>rfl
theorem gh_unbox {t j u e k n c:Nat} {l:List AV} {rows:List (List AV)} (ht:s.t.getD t .de=.sb j u k 0 n c) (hj:s.b[j]? = some ⟨u,.w e l⟩) (hl:l.length=c * k) (hr:rows.flatten=l.take (n * k)) (hn:rows.length=n) (hk:∀ r∈rows,r.length=k) (hlf:∀ r∈rows,∀ x∈r,x.leaf=true/\x.isDe=false) :
 Gh s ⟨s.t.set t (.hd j (u + 1)),s.b.set j ⟨u + 1,.r e k rows⟩⟩:=by
 rintro X a w ⟨X0,φ,κ,f,hX,h⟩;have htm:=h.tmp t;rw [ht] at htm;obtain ⟨hrs,ht2⟩:=h.take hj .x fun _ _=>.x
 have hjl:j < s.b.length:=(List.getElem?_eq_some_iff.1 hj).1;have hone:∀ x,f j x<=1:=fun x=>by have:=sumF_le f x _ j hjl;have:=h.one x;omega
 generalize hF:f j=F at hrs ht2;rw [hF] at hone;generalize hp:a.tmps.getD t undef=p at htm
 have htl:t < a.tmps.size:=by
  rcases Nat.lt_or_ge t s.t.length with h1|h1
  ·have:=h.size;omega
  ·rw [List.getD_eq_getElem?_getD,List.getElem?_eq_none h1] at ht;cases ht
 cases htm with
 | @sb _ _ _ _ _ _ g hφ hnc hcm=>
  cases hrs with
  | @w _ _ vs g' _ hφ' hh hrc hoc hS=>
   rw [hφ] at hφ';injection hφ' with e0;subst e0
   have hvl:=hrc.length;have hgl:g < w.heap.size:=(Array.getElem?_eq_some_iff.1 hh).1
   have hflat:∀ (i:Nat) (x:AV),(l.take (n * k))[i]? = some x->x.isDe=false:=fun i x hi=>by
    rw [←hr] at hi;obtain ⟨r,hr1,hr2⟩:=List.mem_flatten.1 (List.mem_of_getElem? hi);exact (hlf r hr1 x hr2).2
   have ho1:∀ v∈vs.take (n * k),v.oneCell'=true:=fun v hv=>by
    obtain ⟨i,hi,rfl⟩:=List.mem_iff_getElem.1 hv;have hi2:i < n * k:=by rw [List.length_take] at hi;omega
    have hi3:i < l.length:=by rw [List.length_take] at hi;omega
    have e1:(l.take (n * k))[i]? = some l[i]:=by rw [List.getElem?_take,if_pos hi2,List.getElem?_eq_getElem hi3]
    have e2:vs[i]? = some ((vs.take (n * k))[i]):=by rw [List.getElem_take];exact List.getElem?_eq_getElem (by omega)
    exact hoc i l[i] _ (List.getElem?_eq_getElem hi3) e2 (hflat i _ e1)
   have hre:∀ φ' κ',(∀ b u g,φ b u=some g->φ' b u=some g)->(∀ b u v,κ b u=some v->κ' b u=some v)->RE w φ' κ' X0.R k rows (vs.take (n * k)) Ct.z:=fun φ' κ' h1 h2=>by
    have:=hrc.take_ (n * k);rw [←hr] at this;exact RE.unfl (RC.hist h1 h2 (fun _ h=>h) this) hk ho1 fun r hr x hx=>(hlf r hr x hx).1
   have hbx:(s.b.set j ⟨u,.x⟩)[j]? = some ⟨u,.x⟩:=List.getElem?_set_self hjl
   obtain ⟨φ',κ',f',e1,e2,e3,e4,e5⟩:=ht2.newAt (w':=w) (B:=.r e k rows) (g:=fun x=>(if x=g then 1 else 0) + Ct.z x) (L':=Ct.z) hbx none (some (.slice (some ⟨g,0,none⟩) n c)) (Nat.le_refl _) rfl rfl rfl (fun _ _ _=>rfl)
    (fun φ' κ' a1 a2 a3 a4=>.r a4 (by
      have:=RV.ow (e:=e) (cap:=c) (cur:=vs.toArray) (hre φ' κ' a1 a2) hh (by rw [hn];exact hnc) hcm (by rw [List.size_toArray,hvl,hl]) (by rw [hn]) (T:=fun x=>(if x=g then 1 else 0) + Ct.z x) fun _=>rfl
      rw [hn] at this;exact this))
    (fun x _=>by have:=hS x;simp only [Ct.z] at this ⊢;omega) (fun x hx=>by
      simp only [Ct.z];split
      ·omega
      ·simp)
   rw [List.set_set] at e5;have e7:=e5.put t (av:=.hd j (u + 1)) (v:=.slice (some ⟨g,0,none⟩) n c) (.hd e4 rfl);rw [put_same hp htl] at e7;exact ⟨X0,φ',κ',f',hX,e7⟩
theorem pq_cap_sb {T e:Nat} {x:Operand} {b u k off n c:Nat} {i:TI} (ho:o.op=.call { callee:=.builtin .cap,args:=#[x],argTypes:=#[T] }) (hx:aev s x=.sb b u k off n c) (hT:tt[T]? = some i) (hk:i.kd=.sl e):Pq prog X s o (.sc (.int .i64 c)):=.of_run fun X φ κ f a w h=>by
 have h1:=h.evs hx;have hu:=ty_sl hT hk;generalize hv:a.eval x=v at h1
 cases h1 with
 | sb hφ _ _=>
  refine ⟨_,.sc rfl,fun w' _=>?_⟩;simp only [execOp,ho,resolve,invoke,builtin,Sem.run_bind,Sem.run_pure,Result.andThen_ok,List.map_toArray,List.map_cons,List.map_nil,hv];simp [Builtin.cap_,run_underlying hu,goInt,go_sem]
theorem pq_slice_sbK {T e k l h b u off n c:Nat} {x:Operand} {lo hi:Option Operand} {i ie:TI} (ho:o.op=.slice T x lo hi none) (hx:aev s x=.sb b u k off n c) (hT:tt[T]? = some i) (hk:i.kd=.sl e) (he:tt[e]? = some ie) (hsz:ie.size=k)
 (hlo:Bd s lo 0 l) (hhi:Bd s hi n h) (h1:l<=h) (h2:h<=c) (h3:l < c):Pq prog X s o (.sb b u k (off + l * k) (h - l) (c - l)):=.of_run fun X φ κ f a w hs=>by
 have hv:=hs.evs hx;generalize hp:a.eval x=v at hv
 cases hv with
 | @sb _ _ _ _ _ _ g hφ hnc hcm=>
  have hb:=fun w=>run_bounds (n:=n) (c:=c) (l:=l) (h:=h) (m:=c) (lo:=lo.map a.eval) (hi:=hi.map a.eval) (mx:=none) (by simpa using Bd.lo (h0:=hs) hlo) (by
   rcases Bd.lo (h0:=hs) hhi with ⟨a1,a2⟩|a1
   ·exact .inl ⟨a1,rfl,a2⟩
   ·exact .inr a1) (.inl ⟨rfl,rfl⟩) h1 h2 (Nat.le_refl _) w
  refine ⟨_,.sb hφ (by omega) (by omega),fun w' _=>?_⟩;have:=run_slice (A:=some ⟨g,off,none⟩) (n:=n) (c:=c) (l:=l) (h:=h) (m:=c) (lo:=lo.map a.eval) (hi:=hi.map a.eval) (mx:=none) hT hk he hb w'
  have e:(if c=l then some (⟨g,off,none⟩:Addr) else (some (⟨g,off,none⟩:Addr)).map (·.add (l * ie.size)))=some ⟨g,off + l * k,none⟩:=by
   rw [if_neg (by omega),hsz];simp only [Option.map_some,addr_mid]
  rw [e] at this;simp only [execOp,ho,hp,Option.map_none,Sem.run_bind,this];rfl
theorem run_copy_rowK {P:Program} (w:World) (dT sT ty elem:TypeId) (g o dLen dCap:Nat) (a:Addr) (sLen sCap k:Nat) (cur:Array Value) (t:TypeId) (cs:List Value)
 (hu:P.underlying dT=some (.slice elem)) (hs:(P.info? elem).map (·.size)=some k)
 (hg:w.heap[g]? = some (.cells cur t (0,0))) (hn:cs.length=min sLen dLen * k)
 (hsrc:∀ j v,cs[j]? = some v->w.cell? (a.add j)=some v) (hfit:o + cs.length<=cur.size) (h1:∀ v∈cs,v.oneCell'=true) :
 (Builtin.copy_ #[dT,sT] ty #[.slice (some ⟨g,o,none⟩) dLen dCap,.slice (some a) sLen sCap]).run P w =
   .ok (goInt (min sLen dLen:Nat)) (w.setRow g (cur.toList.take o ++ cs ++ cur.toList.drop (o + cs.length)).toArray):=by
 have hl:=run_loadCells_list (P:=P) w a cs hsrc;have hst:=run_storeCells_at P g o t cs 0 cur w hg (by simpa using hfit) h1
 cases hq:P.info? elem with
 | none=>simp [hq] at hs
 | some i=>
  have hi:i.size=k:=by simpa [hq] using hs
  have hm:Nat.min sLen dLen=min sLen dLen:=rfl;simp [Builtin.copy_,run_underlying hu,Builtin.lenOf,Builtin.firstCells,sizeOf,typeInfo,hq,hi,hm,←hn,hl,hst]
theorem SatW.rewide (h:SatW X φ κ f Ct.z s a w) {b u g e:Nat} {l l':List AV} {vs vs':List Value} (hs:s.b[b]? = some ⟨u,.w e l⟩) (hφ:φ b u=some g) (hh:w.heap[g]? = some (.cells vs.toArray e (0,0))) (hrc:RC w φ κ X.R l' vs' Ct.z) (h1:∀ (j:Nat) (a:AV) (v:Value),l'[j]? = some a->vs'[j]? = some v->a.isDe=false->v.oneCell'=true) :
 ∃ f',SatW X φ κ f' Ct.z ⟨s.t,s.b.set b ⟨u,.w e l'⟩⟩ a (w.setRow g vs'.toArray):=by
 have hS:=h.sl b _ hs;have hb:b < s.b.length:=(List.getElem?_eq_some_iff.1 hs).1
 have hf:∀ x,f b x=if x=g then 1 else 0:=by
  generalize f b=F at hS
  cases hS with
  | w hφ' _ _ _ hSx=>rw [hφ] at hφ';injection hφ' with e;subst e;exact hSx
 have hgl:g < w.heap.size:=(Array.getElem?_eq_some_iff.1 hh).1;refine ⟨updF f b (fun x=>if x=g then 1 else 0),?_⟩;refine h.turn (w':=w.setRow g vs'.toArray) hs (fun _ _ _ h=>h) (fun _ _ _ h=>h) (by simp [World.setRow]) rfl rfl rfl ?_ ?_ (g:=fun x=>if x=g then 1 else 0) (L':=Ct.z) ?_ ?_ (Nat.le_refl _) (fun _ _ _ h=>h) (fun _ _ _ h=>h)
 ·intro x hx h0;have:=hf x;have hne:x≠g:=by rintro rfl;simp at this;omega
  exact setRow_other w g x _ hne
 ·have hR:∀ x,X.R x->(w.setRow g vs'.toArray).heap[x]? = w.heap[x]?:=fun x hx=>by
   have h3:=h.not_rd hx;have h4:=sumF_le f x _ b hb;have h5:=hf x;have hne:x≠g:=by rintro rfl;simp at h5;omega
   exact setRow_other w g x _ hne
  exact .w hφ (setRow_heap w g _ vs'.toArray e _ hh) (RC.keep hR hrc fun x hx=>absurd rfl hx) h1 fun _=>rfl
 ·intro x hx;have:=hf x;simp only [Ct.z];omega
 ·intro x hx;simp only [Ct.z];split
  ·omega
  ·simp
theorem ap_copyK {T T1 e k:Nat} {x y:Operand} {b u off n c e':Nat} {l:List AV} {r:List AV} {i ie:TI} {sl:Nat} (hg:o.guard=none) (ho:o.op=.call { callee:=.builtin .copy,args:=#[x,y],argTypes:=#[T,T1] }) (hx:aev s x=.sb b u k off n c) (hs:s.b[b]? = some ⟨u,.w e' l⟩) (hT:tt[T]? = some i) (hk:i.kd=.sl e) (he:tt[e]? = some ie) (hsz:ie.size=k)
 (hfit:off + n * k<=l.length)
 (hsrc:∀ X φ κ f a w,SatW X φ κ f Ct.z s a w->∃ A cs sc,a.eval y=.slice (some A) sl sc/\RC w φ κ X.R r cs Ct.z/\cs.length=min sl n * k/\(∀ v∈cs,v.oneCell'=true)/\∀ j v,cs[j]? = some v->w.cell? (A.add j)=some v)
 (K:AP prog X ops Q rest (AS.put ⟨s.t,s.b.set b ⟨u,.w e' (cpy l off r)⟩⟩ o.dst (.sc (.int .i64 ((min sl n:Nat):Int))))):AP prog X ops Q (o :: rest) s:=
 .run hg (fun X φ κ f a w h=>by
  obtain ⟨A,cs,sc,hy,hrc,hr,h1,hcell⟩:=hsrc X φ κ f a w h;have hcl:=hrc.length;have hv:=h.evs hx;have hS:=h.sl b _ hs;generalize hp:a.eval x=v at hv
  cases hv with
  | @sb _ _ _ _ _ _ g hφ hnc _=>
   obtain ⟨vs,hh,hvc,hv1⟩:∃ vs:List Value,w.heap[g]? = some (.cells vs.toArray e' (0,0))/\RC w φ κ X.R l vs Ct.z/\∀ (j:Nat) (a:AV) (v:Value),l[j]? = some a->vs[j]? = some v->a.isDe=false->v.oneCell'=true:=by
    generalize f b=F at hS
    cases hS with
    | w hφ' hh hc ho _=>rw [hφ] at hφ';injection hφ' with e;subst e;exact ⟨_,hh,hc,ho⟩
   have hvl:=hvc.length;have hmn:min sl n * k<=n * k:=Nat.mul_le_mul_right k (Nat.min_le_right _ _);obtain ⟨dd,j,hd,hj,_,hjs,_⟩:=TI.parts (ty he);have hrun:=run_copy_rowK (P:=prog) w T T1 o.type e g off n c A sl sc k vs.toArray e' cs (ty_sl hT hk) (by rw [hj];simp [hjs,hsz]) hh hr hcell (by simp;omega) h1
   obtain ⟨f',h2⟩:=h.rewide hs hφ hh (hvc.cpy hrc off) (fun j a v hja hjv hd=>by
    unfold cpy at hja hjv;have hlt:(l.take off).length=off:=by rw [List.length_take];omega
    have hvt:(vs.take off).length=off:=by rw [List.length_take];omega
    by_cases hj1:j < off
    ·rw [List.append_assoc,List.getElem?_append_left (by omega),List.getElem?_take,if_pos hj1] at hja hjv;exact hv1 j a v hja hjv hd
    ·by_cases hj2:j < off + cs.length
     ·rw [List.getElem?_append_left (by rw [List.length_append];omega),List.getElem?_append_right (by omega)] at hjv;exact h1 v (List.mem_of_getElem? hjv)
     ·rw [List.getElem?_append_right (by rw [List.length_append];omega),List.getElem?_drop,List.length_append,hlt] at hja;rw [List.getElem?_append_right (by rw [List.length_append];omega),List.getElem?_drop,List.length_append,hvt] at hjv;rw [show off + r.length + (j - (off + r.length))=j by omega] at hja;rw [show off + cs.length + (j - (off + cs.length))=j by omega] at hjv;exact hv1 j a v hja hjv hd)
   have e1:(vs.toArray.toList.take off ++ cs ++ vs.toArray.toList.drop (off + cs.length)).toArray=(cpy vs off cs).toArray:=by simp [cpy]
   rw [e1] at hrun;refine ⟨_,_,φ,κ,f',?_,h2.puts o.dst (av:=.sc (.int .i64 ((min sl n:Nat):Int))) (v:=goInt (min sl n:Nat)) (.sc rfl)⟩;have hm:(#[x,y]:Array Operand).map a.eval=#[.slice (some ⟨g,off,none⟩) n c,.slice (some A) sl sc]:=by simp [hp,hy]
   simp only [execOp,ho,resolve,Sem.run_bind,Sem.run_pure,Result.andThen_ok,invoke,hm]
   show Sem.run prog ((do pure (.value (←Builtin.copy_ #[T,T1] o.type #[.slice (some ⟨g,off,none⟩) n c,.slice (some A) sl sc])):Sem Next)) w=_
   simp only [Sem.run_bind,hrun,Result.andThen_ok,Sem.run_pure]) K
theorem RE.flatK {R:Nat->Prop} {k:Nat}:∀ {r:List (List AV)} {us:List Value},RE w φ κ R k r us Ct.z->RC w φ κ R r.flatten us Ct.z
 | _,_,.nil=>.nil
 | _,_,.cons h1 h2 h3 h4 h5=>by
  obtain ⟨rfl,rfl⟩:=Ct.split h5;rw [List.flatten_cons];exact h1.append (RE.flatK h4) fun _=>rfl
theorem ap_copyV {T T1 e k:Nat} {x y:Operand} {b u off n c e':Nat} {l:List AV} {rows:List (List AV)} {i ie:TI} (hg:o.guard=none) (ho:o.op=.call { callee:=.builtin .copy,args:=#[x,y],argTypes:=#[T,T1] }) (hx:aev s x=.sb b u k off n c) (hy:aev s y=.sl none k rows) (hs:s.b[b]? = some ⟨u,.w e' l⟩) (hT:tt[T]? = some i) (hk:i.kd=.sl e) (he:tt[e]? = some ie) (hsz:ie.size=k)
 (hfit:off + n * k<=l.length) (hn:rows.length<=n) (h0:0 < rows.length)
 (K:AP prog X ops Q rest (AS.put ⟨s.t,s.b.set b ⟨u,.w e' (cpy l off rows.flatten)⟩⟩ o.dst (.sc (.int .i64 (rows.length:Int))))):AP prog X ops Q (o :: rest) s:=
 ap_copyK (sl:=rows.length) hg ho hx hs hT hk he hsz hfit (fun X φ κ f a w h=>by
  have h1:=h.evs hy;generalize hp':a.eval y=p at h1
  cases h1 with
  | ni=>simp at h0
  | ne=>simp at h0
  | @ro _ _ g o' c' us hre hle hm hR hc=>
   refine ⟨_,us,c',rfl,hre.flatK,by rw [Nat.min_eq_left hn];exact hre.length,hre.one,fun j v hj=>?_⟩;have:=hc j v hj
   rwa [show (⟨g,o',none⟩:Addr).add j=⟨g,o' + j,none⟩ by unfold Addr.add;split<;>simp_all]) (by rw [Nat.min_eq_left hn];exact K)
theorem ap_copyW {T T1 e k:Nat} {x y:Operand} {b u off n c e' b2 u2 off2 n2 c2 e2:Nat} {l l2:List AV} {i ie:TI} (hg:o.guard=none) (ho:o.op=.call { callee:=.builtin .copy,args:=#[x,y],argTypes:=#[T,T1] }) (hx:aev s x=.sb b u k off n c) (hy:aev s y=.sb b2 u2 k off2 n2 c2) (hs:s.b[b]? = some ⟨u,.w e' l⟩) (hs2:s.b[b2]? = some ⟨u2,.w e2 l2⟩) (hT:tt[T]? = some i) (hk:i.kd=.sl e) (he:tt[e]? = some ie) (hsz:ie.size=k)
 (hfit:off + n * k<=l.length) (hfit2:off2 + min n2 n * k<=l2.length) (hnd:∀ a∈(l2.drop off2).take (min n2 n * k),a.isDe=false)
 (K:AP prog X ops Q rest (AS.put ⟨s.t,s.b.set b ⟨u,.w e' (cpy l off ((l2.drop off2).take (min n2 n * k)))⟩⟩ o.dst (.sc (.int .i64 ((min n2 n:Nat):Int))))):AP prog X ops Q (o :: rest) s:=
 ap_copyK (sl:=n2) hg ho hx hs hT hk he hsz hfit (fun X φ κ f a w h=>by
  have hv:=h.evs hy;have hS:=h.sl b2 _ hs2;generalize hp':a.eval y=p at hv
  cases hv with
  | @sb _ _ _ _ _ _ g hφ hnc _=>
   obtain ⟨vs,hh,hvc,hv1⟩:∃ vs:List Value,w.heap[g]? = some (.cells vs.toArray e2 (0,0))/\RC w φ κ X.R l2 vs Ct.z/\∀ (j:Nat) (a:AV) (v:Value),l2[j]? = some a->vs[j]? = some v->a.isDe=false->v.oneCell'=true:=by
    generalize f b2=F at hS
    cases hS with
    | w hφ' hh hc ho _=>rw [hφ] at hφ';injection hφ' with e;subst e;exact ⟨_,hh,hc,ho⟩
   have hvl:=hvc.length;refine ⟨_,(vs.drop off2).take (min n2 n * k),c2,rfl,hvc.drop_ off2 _,by simp;omega,fun v hv=>?_,fun j v hj=>?_⟩
   ·obtain ⟨j,hj,rfl⟩:=List.mem_iff_getElem.1 hv;have hj2:j < min n2 n * k:=by rw [List.length_take] at hj;omega
    have hjl:off2 + j < l2.length:=by omega
    have ea:((l2.drop off2).take (min n2 n * k))[j]? = some l2[off2 + j]:=by rw [List.getElem?_take,if_pos hj2,List.getElem?_drop,List.getElem?_eq_getElem hjl]
    have ev:vs[off2 + j]? = some (((vs.drop off2).take (min n2 n * k))[j]):=by rw [List.getElem_take,List.getElem_drop];exact List.getElem?_eq_getElem (by omega)
    exact hv1 _ _ _ (List.getElem?_eq_getElem hjl) ev (hnd _ (List.mem_of_getElem? ea))
   ·rw [List.getElem?_take] at hj;split at hj
    ·rw [List.getElem?_drop] at hj;rw [show (⟨g,off2,none⟩:Addr).add j=⟨g,off2 + j,none⟩ by unfold Addr.add;split<;>simp_all];rw [cell_of_row w g (off2 + j) vs.toArray e2 (0,0) hh];simpa using hj
    ·cases hj) K
theorem ap_ovl {fn b u e k e' b2 u2 off2 n2 c2 Ts Tr:Nat} {rows:List (List AV)} {l:List AV} {fo x y:Operand} {tys:Array TypeId} {it ie:TI} {F:Func} (hg:o.guard=none) (ho:o.op=.call { callee:=.value fo,args:=#[x,y],argTypes:=tys }) (hfo:aev s fo=.fn fn [])
 (hF:prog.funcs[fn]? = some F) (hname:(F.name == "runtime.NumGoroutine")=false) (hb:F.body.isNone=true) (hn:Extern.findNext F=none) (hex:Extern.find F=some (Extern.SlicesOverlaps.overlaps #[Ts,Ts] #[Tr]))
 (hx:aev s x=.hd b u) (hs:s.b[b]? = some ⟨u,.r e k rows⟩) (heU:e≠5) (hne:rows≠[]) (hy:aev s y=.sb b2 u2 k off2 n2 c2) (hs2:s.b[b2]? = some ⟨u2,.w e' l⟩) (hl:l≠[]) (hbb:b≠b2) (hT:tt[Ts]? = some it) (hk:it.kd=.sl e) (he:tt[e]? = some ie) (hie:ie.size=k)
 (K:AP prog X ops Q rest (s.put o.dst (.sc (.bool false)))):AP prog X ops Q (o :: rest) s:=
 .run hg (fun X φ κ f a w h=>by
  have hv:=h.evs hy;have hxv:=h.evs hx;have hfv:=h.evs hfo;have hS2:=h.sl b2 _ hs2;have hS1:=h.sl b _ hs;have hbl:b < s.b.length:=(List.getElem?_eq_some_iff.1 hs).1;have hbl2:b2 < s.b.length:=(List.getElem?_eq_some_iff.1 hs2).1;have hone:=fun x=>h.one x
  have hsum:=fun x=>sumF_le2 f x _ b b2 hbl hbl2 hbb
  generalize hF1:f b=F1 at hS1 hsum;generalize hF2:f b2=F2 at hS2 hsum;generalize hp:a.eval x=px at hxv;generalize hq:a.eval y=py at hv;generalize hr:a.eval fo=pf at hfv
  cases hv with
  | @sb _ _ _ _ _ _ g2 hφ hnc _=>
   cases hS2 with
   | @w _ _ vs g2' _ hφ' hh hrc hoc hSS=>
    rw [hφ] at hφ';injection hφ' with e0;subst e0
    cases hxv with
    | hd hκ _=>
     cases hS1 with
     | r hκ' hvv=>
      rw [hκ] at hκ';injection hκ' with e0;subst e0
      cases hvv with
      | ni=>exact absurd rfl hne
      | ne=>exact absurd rfl hne
      | @om _ _ _ g cap cur us S _ hre hmk hle hm hsz htk hST=>
       have hg0:=hmk.z0 heU
       have hgg:g≠g2:=by
        rintro rfl;have h1:=hsum g;have h2:=hone g;have h3:=hSS g;have h4:=hST g;simp at h3 h4;omega
       cases hfv with
       | @fn _ _ vs0 _ hc=>
        cases hc
        have hshA:w.shape? g=some (e,cur.size):=by unfold World.shape?;rw [hg0]
        have hshB:w.shape? g2=some (e',vs.toArray.size):=by unfold World.shape?;rw [hh]
        have hkB:vs.toArray.size≠0:=by
         rw [List.size_toArray,hrc.length]
         cases l with
         | nil=>exact absurd rfl hl
         | cons _ _=>simp
        have hfa:w.frozen? ⟨g,0,none⟩=false:=by simp [World.frozen?,hg0]
        have hfe:w.frozen? { block:=g,off:=cur.size }=false:=by simp [World.frozen?,hg0]
        have hov:=Lib.run_overlaps_apart (P:=prog) w Ts Tr e (ty_sl hT hk) k (fun w=>by rw [ty_size he w,hie]) ⟨g,0,none⟩ ⟨g2,off2,none⟩ rows.length cap n2 c2 hgg e e' cur.size vs.toArray.size hshA hshB hkB hfa hfe;have hcall:=run_callFunc_extern (P:=prog) hF hname hb hn hex #[.slice (some ⟨g,0,none⟩) rows.length cap,.slice (some ⟨g2,off2,none⟩) n2 c2] w;rw [hov] at hcall;refine ⟨.bool false,w,φ,κ,f,?_,h.puts o.dst (.sc rfl)⟩;simp only [fnV,bdC] at hr;simp only [execOp,ho,resolve,Deferred.ofValue,hr,Sem.run_bind,Sem.run_pure,Result.andThen_ok,invoke,Array.empty_append,Array.append_empty,List.map_toArray,List.map_cons,List.map_nil,hp,hq];exact hcall) K
theorem ap_growW {T Tn e k:Nat} {x y:Operand} {kl:IntKind} {j u n c N e':Nat} {l:List AV} {i ie:TI} {z:List ZC} (hg:o.guard=none) (ho:o.op=.call { callee:=.builtin .append,args:=#[x,y],argTypes:=#[T,Tn] }) (hx:aev s x=.sb j u k 0 n c) (hs:s.b[j]? = some ⟨u,.w e' l⟩) (hy:aev s y=.sc (.int kl (N:Int))) (hT:tt[T]? = some i) (hk:i.kd=.sl e) (he:tt[e]? = some ie) (hz:ie.zero=some z)
 (hTn:(match prog.underlying Tn with|some (.int _)=>true | _=>false)=true)
 (hsz:ie.size=k) (hk0:Nat.ble 1 k=true) (hby:Nat.ble ie.bytes 100000=true) (hn0:0 < N) (hnN:n + N<=1000000) (hcN:c < n + N) (hnd:∀ a∈l.take (n * k),a.isDe=false) (hfit:n * k<=l.length)
 (K:∀ c2,n + N<=c2->c2<=maxLen->AP prog X ops Q rest (AS.put ⟨s.t,(newS s.b (.w e (l.take (n * k) ++ List.replicate ((c2 - n) * k) .de))).2⟩ o.dst (.sb (newS s.b (.w e (l.take (n * k) ++ List.replicate ((c2 - n) * k) .de))).1.1 (newS s.b (.w e (l.take (n * k) ++ List.replicate ((c2 - n) * k) .de))).1.2 k 0 (n + N) c2))):AP prog X ops Q (o :: rest) s:=by
 rintro a w ⟨X0,φ,κ,f,hX0,h⟩;have hk0:=Nat.le_of_ble_eq_true hk0;have hby:=Nat.le_of_ble_eq_true hby
 obtain ⟨kn,hkn⟩:∃ kn,prog.underlying Tn=some (.int kn):=by
  split at hTn
  ·exact ⟨_,by assumption⟩
  ·cases hTn
 obtain ⟨d,jt,hd,hjt,_,hjs,hjb,hzz⟩:=TI.parts (ty he);obtain ⟨zv,hzv,hzc,hzl,_⟩:=hzz z hz;have hzk:z.length=k:=by rw [hzl,hsz]
 have hzs:zv.cells.size=k:=by rw [←Array.length_toList,hzc];simpa using hzk
 have hsl:=ty_sl hT hk;have hv:=h.evs hx;have hS:=h.sl j _ hs;have hy':=h.evc hy;generalize hp:a.eval x=v at hv
 cases hv with
 | @sb _ _ _ _ _ _ g hφ hnc hcm=>
  obtain ⟨vs,hh,hvc,hv1⟩:∃ vs:List Value,w.heap[g]? = some (.cells vs.toArray e' (0,0))/\RC w φ κ X0.R l vs Ct.z/\∀ (j:Nat) (a:AV) (v:Value),l[j]? = some a->vs[j]? = some v->a.isDe=false->v.oneCell'=true:=by
   generalize f j=F at hS
   cases hS with
   | w hφ' hh hc ho _=>rw [hφ] at hφ';injection hφ' with e;subst e;exact ⟨_,hh,hc,ho⟩
  have hvl:=hvc.length
  have holds:=run_loadCells_list (P:=prog) w.drew ⟨g,0,none⟩ (vs.take (n * k)) (fun i v hi=>by
   rw [List.getElem?_take] at hi;split at hi
   ·rw [show (⟨g,0,none⟩:Addr).add i=⟨g,0 + i,none⟩ from addr_mid ..];have:w.drew.cell? ⟨g,0 + i,none⟩=w.cell? ⟨g,0 + i,none⟩:=rfl;rw [this,cell_of_row w g (0 + i) vs.toArray e' (0,0) hh];simpa using hi
   ·cases hi)
  have hlt:(vs.take (n * k)).length=n * k:=by rw [List.length_take];omega
  rw [hlt] at holds
  have hfc:(Builtin.firstCells jt.size n (.slice (some ⟨g,0,none⟩) n c)).run prog w.drew=.ok (vs.take (n * k)).toArray w.drew:=by
   simp only [Builtin.firstCells,hjs,hsz];exact holds
  have hNb:(n + N) * jt.bytes<=1000000 * 100000:=Nat.mul_le_mul hnN (by omega);have hNb2:N * jt.bytes<=1000000 * 100000:=Nat.mul_le_mul (by omega) (by omega);have hr:=Lib.run_append_grow_zeros (P:=prog) w T Tn o.type e jt zv kl kn hsl hkn hjt hzv (some ⟨g,0,none⟩) n c (vs.take (n * k)) hfc N hn0 (by omega) hcN (by omega) (by omega) (growslice_fits hcN (by omega));have hge:=grownCap_ge w (n + N) c e;have hmx:=grownCap_le_maxLen w (n + N) c e (by unfold maxLen;omega)
  have hrun:(execOp a.eval o).run prog w=.ok (.value (.slice (some ⟨w.heap.size,0,none⟩) (n + N) (grownCap w (n + N) c e))) (w.drew.alloc (.cells ((vs.take (n * k)).toArray ++ Builtin.zeroCells zv.cells N ++ Builtin.zeroCells zv.cells (grownCap w (n + N) c e - (n + N))) e)):=by
   simp only [execOp,ho,resolve,invoke,builtin,Sem.run_bind,Sem.run_pure,Result.andThen_ok,List.map_toArray,List.map_cons,List.map_nil,hp,hy',hr]
  generalize grownCap w (n + N) c e=c2 at hrun hge hmx;have hcs:∃ cs:List Value,cs.toArray=(vs.take (n * k)).toArray ++ Builtin.zeroCells zv.cells N ++ Builtin.zeroCells zv.cells (c2 - (n + N))/\cs=vs.take (n * k) ++ ((Builtin.zeroCells zv.cells N).toList ++ (Builtin.zeroCells zv.cells (c2 - (n + N))).toList):=⟨_,by simp,rfl⟩;obtain ⟨cs,hcs1,hcs2⟩:=hcs;rw [←hcs1] at hrun
  have hzl2:((Builtin.zeroCells zv.cells N).toList ++ (Builtin.zeroCells zv.cells (c2 - (n + N))).toList).length=(c2 - n) * k:=by
   simp only [Builtin.zeroCells,List.length_append,Array.length_toList,Array.size_map,Array.size_range,hzs];rw [←Nat.add_mul];congr 1;omega
  have hnewrc:∀ φ' κ' w',(∀ b u g,φ b u=some g->φ' b u=some g)->(∀ b u v,κ b u=some v->κ' b u=some v)->(∀ x,X0.R x->w'.heap[x]? = w.heap[x]?)->RC w' φ' κ' X0.R (l.take (n * k) ++ List.replicate ((c2 - n) * k) .de) cs Ct.z:=fun φ' κ' w' a1 a2 a3=>by
   rw [hcs2];have h1:=RC.keep a3 (RC.hist a1 a2 (fun _ h=>h) (hvc.take_ (n * k))) fun x hx=>absurd rfl hx
   have h2:=RC.de_ (w:=w') (φ:=φ') (κ:=κ') (R:=X0.R) ((Builtin.zeroCells zv.cells N).toList ++ (Builtin.zeroCells zv.cells (c2 - (n + N))).toList);rw [hzl2] at h2;exact h1.append h2 fun _=>rfl
  have hlt2:(l.take (n * k)).length=n * k:=by rw [List.length_take];omega
  obtain ⟨φ',κ',f',e1,e2,e3,e4,e5⟩:=h.newS_ (w':=w.drew.alloc (.cells cs.toArray e)) (B:=.w e (l.take (n * k) ++ List.replicate ((c2 - n) * k) .de)) (g:=fun x=>if x=w.heap.size then 1 else 0) (L':=Ct.z) (some w.heap.size) none (by simp) rfl rfl rfl
   (fun x hx _=>Below.heap_alloc w.drew _ x hx)
   (fun φ' κ' j u a1 a2 a3 a4=>.w a3 (heap_alloc_new w.drew _) (hnewrc φ' κ' _ a1 a2 fun x hx=>Below.heap_alloc w.drew _ x (h.blk (.inl hx))) (fun i av v hi hv hd=>by
     by_cases hin:i < n * k
     ·rw [List.getElem?_append_left (by omega)] at hi;rw [hcs2,List.getElem?_append_left (by omega),List.getElem?_take,if_pos hin] at hv;have hi2:=hi;rw [List.getElem?_take,if_pos hin] at hi2;exact hv1 i av v hi2 hv hd
     ·rw [List.getElem?_append_right (by omega),List.getElem?_replicate] at hi;split at hi
      ·injection hi with hi;subst hi;cases hd
      ·cases hi) fun _=>rfl)
   (fun x hx=>by simp only [Ct.z];rw [if_neg (by omega)];omega)
   (fun x hx=>by simp only [Ct.z];split<;>simp_all)
  refine wpL_plain hg fun K' hK'=>wpO_val hrun (hK' _ _ (K c2 hge hmx _ _ ⟨X0,φ',κ',f',hX0,e5.puts o.dst (.sb e3 hge hmx)⟩))
end
section
variable {X:Cx} {s:AS} {ops:Array Oper} {rest:List Oper} {Q:Exit->AS->Prop} {d:Option Nat} {ty:Nat} {pos:String} {aft:Array Edge}
theorem AP.WS {T e k l h b u off n c:Nat} {x:Operand} {lo hi:Option Operand} {i ie:TI} (K:AP prog X ops Q rest (s.put d (.sb b u k (off + l * k) (h - l) (c - l)))) (hx:aev s x=.sb b u k off n c:=by exact rfl) (hT:tt[T]? = some i:=by exact rfl) (hk:i.kd=.sl e:=by exact rfl) (he:tt[e]? = some ie:=by exact rfl) (hsz:ie.size=k:=by exact rfl)
 (hlo:Bd s lo 0 l:=by (first|exact Bd.no|exact Bd.int rfl|exact Bd.lit rfl rfl)) (hhi:Bd s hi n h:=by (first|exact Bd.no|exact Bd.int rfl|exact Bd.lit rfl rfl)) (hp:l<=h/\h<=c/\l < c:=by omega):AP prog X ops Q (⟨d,.slice T x lo hi none,ty,pos,aft,none⟩ :: rest) s:=AP.pure rfl (pq_slice_sbK rfl hx hT hk he hsz hlo hhi hp.1 hp.2.1 hp.2.2) K
theorem pq_slice_hdD {T e k l b u e':Nat} {x:Operand} {lo:Option Operand} {s1:List (List AV)} {i ie:TI} {o:Oper} (ho:o.op=.slice T x lo none none) (hx:aev s x=.hd b u) (hs:s.b[b]? = some ⟨u,.r e' k s1⟩) (hT:tt[T]? = some i) (hk:i.kd=.sl e) (he:tt[e]? = some ie) (hlo:Bd s lo 0 l) (h1:l<=s1.length):Pq prog X s o .de:=.of_run fun X φ κ f a w h=>by
 obtain ⟨A,c,hA,hc1,hc2,hc3⟩:=(h.hdv hx hs).sl_form;have hb:=fun w=>run_bounds (n:=s1.length) (c:=c) (l:=l) (h:=s1.length) (m:=c) (lo:=lo.map a.eval) (hi:=none) (mx:=none) (by simpa using Bd.lo (h0:=h) hlo) (.inl ⟨rfl,rfl,rfl⟩) (.inl ⟨rfl,rfl⟩) h1 hc1 (Nat.le_refl _) w
 refine ⟨.slice (if c=l then A else A.map (·.add (l * ie.size))) (s1.length - l) (c - l),.de,fun w' _=>?_⟩;have:=run_slice (A:=A) (n:=s1.length) (c:=c) (l:=l) (h:=s1.length) (m:=c) (lo:=lo.map a.eval) (hi:=none) (mx:=none) hT hk he hb w';simp only [execOp,ho,hA,Option.map_none,Sem.run_bind,this];rfl
theorem AP.WD {T e k l b u e':Nat} {x:Operand} {lo:Option Operand} {s1:List (List AV)} {i ie:TI} (K:AP prog X ops Q rest (s.put d .de)) (hx:aev s x=.hd b u:=by exact rfl) (hs:s.b[b]? = some ⟨u,.r e' k s1⟩:=by exact rfl) (hT:tt[T]? = some i:=by exact rfl) (hk:i.kd=.sl e:=by exact rfl) (he:tt[e]? = some ie:=by exact rfl) (hlo:Bd s lo 0 l:=by (first|exact Bd.no|exact Bd.int rfl|exact Bd.lit rfl rfl)) (h1:l<=s1.length:=by (simp only [List.length_map];omega)):AP prog X ops Q (⟨d,.slice T x lo none none,ty,pos,aft,none⟩ :: rest) s:=AP.pure rfl (pq_slice_hdD rfl hx hs hT hk he hlo h1) K
theorem AP.WP {T e k b u off n c:Nat} {x:Operand} {i:TI} (K:AP prog X ops Q rest (s.put d (.sc (.int .i64 c)))) (hx:aev s x=.sb b u k off n c:=by exact rfl) (hT:tt[T]? = some i:=by exact rfl) (hk:i.kd=.sl e:=by exact rfl):AP prog X ops Q (⟨d,.call { callee:=.builtin .cap,args:=#[x],argTypes:=#[T] },ty,pos,aft,none⟩ :: rest) s:=AP.pure rfl (pq_cap_sb rfl hx hT hk) K
theorem AP.WV {T T1 e k:Nat} {x y:Operand} {b u off n c e':Nat} {l:List AV} {rows:List (List AV)} {i ie:TI} (K:AP prog X ops Q rest (AS.put ⟨s.t,s.b.set b ⟨u,.w e' (cpy l off rows.flatten)⟩⟩ d (.sc (.int .i64 (rows.length:Int))))) (hx:aev s x=.sb b u k off n c:=by exact rfl) (hy:aev s y=.sl none k rows:=by exact rfl) (hs:s.b[b]? = some ⟨u,.w e' l⟩:=by exact rfl) (hT:tt[T]? = some i:=by exact rfl) (hk:i.kd=.sl e:=by exact rfl) (he:tt[e]? = some ie:=by exact rfl) (hsz:ie.size=k:=by exact rfl)
 (hfit:off + n * k<=l.length:=by (first|assumption|omega)) (hn:rows.length<=n/\0 < rows.length:=by (simp only [List.length_cons,List.length_nil,List.length_map];omega)):AP prog X ops Q (⟨d,.call { callee:=.builtin .copy,args:=#[x,y],argTypes:=#[T,T1] },ty,pos,aft,none⟩ :: rest) s:=ap_copyV rfl rfl hx hy hs hT hk he hsz hfit hn.1 hn.2 K
theorem AP.WC {T T1 e k:Nat} {x y:Operand} {b u off n c e' b2 u2 off2 n2 c2 e2:Nat} {l l2:List AV} {i ie:TI} (K:AP prog X ops Q rest (AS.put ⟨s.t,s.b.set b ⟨u,.w e' (cpy l off ((l2.drop off2).take (min n2 n * k)))⟩⟩ d (.sc (.int .i64 ((min n2 n:Nat):Int))))) (hx:aev s x=.sb b u k off n c:=by exact rfl) (hy:aev s y=.sb b2 u2 k off2 n2 c2:=by exact rfl) (hs:s.b[b]? = some ⟨u,.w e' l⟩:=by exact rfl) (hs2:s.b[b2]? = some ⟨u2,.w e2 l2⟩:=by exact rfl) (hT:tt[T]? = some i:=by exact rfl) (hk:i.kd=.sl e:=by exact rfl) (he:tt[e]? = some ie:=by exact rfl) (hsz:ie.size=k:=by exact rfl)
 (hfit:off + n * k<=l.length:=by (first|assumption|omega)) (hfit2:off2 + min n2 n * k<=l2.length:=by (first|assumption|omega)) (hnd:∀ a∈(l2.drop off2).take (min n2 n * k),a.isDe=false:=by assumption):AP prog X ops Q (⟨d,.call { callee:=.builtin .copy,args:=#[x,y],argTypes:=#[T,T1] },ty,pos,aft,none⟩ :: rest) s:=ap_copyW rfl rfl hx hy hs hs2 hT hk he hsz hfit hfit2 hnd K
end
section
variable {s:AS} {ops:Array Oper} {all:List Oper} {K:AS->Prop} {acc:List Fp} {l:List Oper} {av:AV} {op:Op} {ty:Nat} {pos:String} {aft:Array Edge} {g:Option (Nat×Bool)} {d:Nat} {T:List Nat} {F:List Nat} {b2:List Sl} {r:Bool}
theorem DW.RW (hk:DW prog ops all K (⟨T,some d,F,false⟩ :: acc) l ⟨s.t.set d av,s.b⟩) (hg:gdS ops s g=some r:=by exact rfl) (hT:opTs ops ⟨some d,op,ty,pos,aft,g⟩=T:=by (simp only [ft,nm,Nat.reduceAdd,Nat.reduceBEq,List.getElem?_cons_zero,List.getElem?_cons_succ];exact rfl)) (hF:ftF 0 s op=F:=by (simp only [ft,nm,Nat.reduceAdd,Nat.reduceBEq,List.getElem?_cons_zero,List.getElem?_cons_succ];exact rfl)) (h:∀ X V,AP prog X ops (fun e s'=>e=.normal/\s'=⟨(msT T 0 s.t).set d av,msB F V 0 s.b⟩) [⟨some d,op,ty,pos,aft,g⟩] ⟨msT T 0 s.t,msB F V 0 s.b⟩:=by (intro X V;simp only [ft,nm,Nat.reduceAdd,Nat.reduceBEq];(refine AP.WS ?_);(try refine NX ?_);refine AP.nil ?_;first|exact ⟨trivial,rfl⟩|exact ⟨rfl,rfl⟩)) (hy:nyF F 0 s.b=true:=by exact rfl) :
 DW prog ops all K acc (⟨some d,op,ty,pos,aft,g⟩ :: l) s:=DW.rd 0 hT hF h hk hy
theorem DW.WW (hk:DW prog ops all K (⟨T,some d,F,true⟩ :: acc) l ⟨s.t.set d av,b2⟩) (hg:gdS ops s g=some r:=by exact rfl) (hT:opTs ops ⟨some d,op,ty,pos,aft,g⟩=T:=by (simp only [ft,nm,Nat.reduceAdd,Nat.reduceBEq,List.getElem?_cons_zero,List.getElem?_cons_succ];exact rfl)) (hF:ftF 0 s op=F:=by (simp only [ft,nm,Nat.reduceAdd,Nat.reduceBEq,List.getElem?_cons_zero,List.getElem?_cons_succ];exact rfl)) (h:∀ X V,AP prog X ops (fun e s'=>e=.normal/\s'.t=(msT T 0 s.t).set d av/\Mg F V 0 s.b s'.b b2) [⟨some d,op,ty,pos,aft,g⟩] ⟨msT T 0 s.t,msB F V 0 s.b⟩:=by (intro X V;simp only [ft,nm,Nat.reduceAdd,Nat.reduceBEq];(first|refine AP.WC ?_|refine AP.WV ?_);(try refine NX ?_);refine AP.nil ?_;(first|refine ⟨trivial,rfl,?_⟩|refine ⟨rfl,rfl,?_⟩);(repeat' (first|exact Mg.nil|apply Mg.keep rfl|apply Mg.take rfl));all_goals fail))
 (hb:(∃ V:Nat->Nat,∃ b1,Mg F V 0 s.b b1 b2):=by (refine Exists.intro (fun _=>0) ?_;apply Exists.intro;(repeat' (first|exact Mg.nil|apply Mg.keep rfl|apply Mg.take rfl));all_goals fail)) (hy:nyF F 0 s.b=true:=by exact rfl) (hy2:nyF F 0 b2=true:=by exact rfl):DW prog ops all K acc (⟨some d,op,ty,pos,aft,g⟩ :: l) s:=DW.st 0 hT hF h hb hk hy hy2
end
section
variable {α:Type} {k n i c:Nat} {F D r:List α}
theorem flat_take:∀ {rows:List (List α)} {i:Nat},(∀ r∈rows,r.length=k)->(rows.take i).flatten=rows.flatten.take (i * k)/\(rows.drop i).flatten=rows.flatten.drop (i * k)/\rows.flatten.length=rows.length * k
 | [],i,_=>by simp
 | r :: rows,i,h=>by
  have hr:r.length=k:=h r (by simp);have ih:=fun i=>flat_take (rows:=rows) (i:=i) fun r hr=>h r (by simp [hr])
  have hl:(r :: rows).flatten.length=(r :: rows).length * k:=by rw [List.flatten_cons,List.length_append,hr,(ih 0).2.2,List.length_cons,Nat.add_mul];omega
  cases i with
  | zero=>exact ⟨by simp,by simp,hl⟩
  | succ i=>
   have e:(i + 1) * k=r.length + i * k:=by rw [Nat.add_mul,hr];omega
   refine ⟨?_,?_,hl⟩
   ·rw [List.take_succ_cons,List.flatten_cons,(ih i).1,List.flatten_cons,e,List.take_append,List.take_of_length_le (show r.length<=r.length + i * k by omega),Nat.add_sub_cancel_left]
   ·rw [List.drop_succ_cons,(ih i).2.1,List.flatten_cons,e,List.drop_append,List.drop_eq_nil_of_le (show r.length<=r.length + i * k by omega),List.nil_append,Nat.add_sub_cancel_left]
theorem cpy_take {l:List α} {o:Nat} {r:List α} (h:o + r.length<=l.length):(cpy l o r).take o=l.take o/\(cpy l o r).take (o + r.length)=l.take o ++ r:=by
 unfold cpy;have h1:(l.take o).length=o:=by rw [List.length_take];omega
 constructor
 ·rw [List.append_assoc,List.take_left' h1]
 ·rw [List.take_left' (by rw [List.length_append,h1])]
theorem ins_new (hF:F.length=n * k) (hr:r.length=k) (hi:i < n) {D2:List α} (hD2:D2.length=(c - i) * k) (hc:n + 1<=c) :
 (cpy (cpy ((F ++ D).take (i * k) ++ D2) (i * k) r) ((i + 1) * k) (((F ++ D).drop (i * k)).take ((n - i) * k))).take ((n + 1) * k)=F.take (i * k) ++ r ++ F.drop (i * k)/\(cpy (cpy ((F ++ D).take (i * k) ++ D2) (i * k) r) ((i + 1) * k) (((F ++ D).drop (i * k)).take ((n - i) * k))).length=c * k:=by
 have a1:i * k<=n * k:=Nat.mul_le_mul_right k (by omega);have a2:(n - i) * k=n * k - i * k:=Nat.sub_mul ..;have a3:(c - i) * k=c * k - i * k:=Nat.sub_mul ..;have a4:(n + 1) * k=n * k + k:=by rw [Nat.add_mul];omega
 have a5:(i + 1) * k=i * k + k:=by rw [Nat.add_mul];omega
 have a6:(n + 1) * k<=c * k:=Nat.mul_le_mul_right k hc;have e1:(F ++ D).take (i * k)=F.take (i * k):=List.take_append_of_le_length (by omega);have e2:((F ++ D).drop (i * k)).take ((n - i) * k)=F.drop (i * k):=by rw [List.drop_append_of_le_length (by omega)];exact List.take_left' (by rw [List.length_drop];omega)
 rw [e1,e2];have l1:(F.take (i * k) ++ D2).length=c * k:=by rw [List.length_append,List.length_take];omega
 have l2:(cpy (F.take (i * k) ++ D2) (i * k) r).length=c * k:=by rw [cpy_length (by omega),l1]
 have l3:(F.drop (i * k)).length=n * k - i * k:=by rw [List.length_drop];omega
 refine ⟨?_,by rw [cpy_length (by omega),l2]⟩;have t1:=(cpy_take (l:=F.take (i * k) ++ D2) (o:=i * k) (r:=r) (by omega)).2;have t2:=(cpy_take (l:=cpy (F.take (i * k) ++ D2) (i * k) r) (o:=(i + 1) * k) (r:=F.drop (i * k)) (by omega)).2;rw [show (n + 1) * k=(i + 1) * k + (F.drop (i * k)).length by omega,t2];rw [show (i + 1) * k=i * k + r.length by omega,t1];rw [List.take_left' (by rw [List.length_take];omega)]
theorem ins_old (hF:F.length=n * k) (hr:r.length=k) (hi:i < n) (hD:D.length=(c - n) * k) (hc:n + 1<=c) :
 (cpy (cpy (F ++ D) ((i + 1) * k) (((F ++ D).drop (i * k)).take ((n - i) * k))) (i * k) r).take ((n + 1) * k)=F.take (i * k) ++ r ++ F.drop (i * k)/\(cpy (cpy (F ++ D) ((i + 1) * k) (((F ++ D).drop (i * k)).take ((n - i) * k))) (i * k) r).length=c * k:=by
 have a1:i * k<=n * k:=Nat.mul_le_mul_right k (by omega);have a2:(n - i) * k=n * k - i * k:=Nat.sub_mul ..;have a3:(c - n) * k=c * k - n * k:=Nat.sub_mul ..;have a4:(n + 1) * k=n * k + k:=by rw [Nat.add_mul];omega
 have a5:(i + 1) * k=i * k + k:=by rw [Nat.add_mul];omega
 have a6:(n + 1) * k<=c * k:=Nat.mul_le_mul_right k hc;have e2:((F ++ D).drop (i * k)).take ((n - i) * k)=F.drop (i * k):=by rw [List.drop_append_of_le_length (by omega)];exact List.take_left' (by rw [List.length_drop];omega)
 rw [e2];have l1:(F ++ D).length=c * k:=by rw [List.length_append];omega
 have l3:(F.drop (i * k)).length=n * k - i * k:=by rw [List.length_drop];omega
 have l2:(cpy (F ++ D) ((i + 1) * k) (F.drop (i * k))).length=c * k:=by rw [cpy_length (by omega),l1]
 refine ⟨?_,by rw [cpy_length (by omega),l2]⟩;have t1:=(cpy_take (l:=F ++ D) (o:=(i + 1) * k) (r:=F.drop (i * k)) (by omega));generalize hM:cpy (F ++ D) ((i + 1) * k) (F.drop (i * k))=M at *
 have t3:M.take (i * k)=F.take (i * k):=by
  have:M.take (i * k)=(M.take ((i + 1) * k)).take (i * k):=by rw [List.take_take,Nat.min_eq_left (by omega)]
  rw [this,t1.1,List.take_take,Nat.min_eq_left (by omega)];exact List.take_append_of_le_length (by omega)
 have t4:(M.take ((n + 1) * k)).drop ((i + 1) * k)=F.drop (i * k):=by
  rw [show (n + 1) * k=(i + 1) * k + (F.drop (i * k)).length by omega,t1.2];exact List.drop_left' (by rw [List.length_take];omega)
 unfold cpy;rw [List.take_append,t3];have l4:(F.take (i * k) ++ r).length=(i + 1) * k:=by rw [List.length_append,List.length_take];omega
 rw [List.take_of_length_le (by omega),l4]
 congr 1
 rw [show i * k + r.length=(i + 1) * k by omega,←t4,List.drop_take]
end
theorem AP.run2 {P:Program} {X:Cx} {s s':AS} {ops:Array Oper} {rest:List Oper} {o p:Oper} {Q:Exit->AS->Prop} (hg:o.guard=none) (hg2:p.guard=none)
 (h:∀ X φ κ f a w,SatW X φ κ f Ct.z s a w->∃ v w1 v2 w2 φ' κ' f',(execOp a.eval o).run P w=.ok (.value v) w1/\(execOp (a.put o.dst v).eval p).run P w1=.ok (.value v2) w2/\SatW X φ' κ' f' Ct.z s' ((a.put o.dst v).put p.dst v2) w2)
 (K:AP P X ops Q rest s'):AP P X ops Q (o :: p :: rest) s:=by
 rintro a w ⟨X',φ,κ,f,hX,hs⟩;obtain ⟨v,w1,v2,w2,φ',κ',f',hr,hr2,hs'⟩:=h X' φ κ f a w hs;exact wpL_plain hg fun K' hK'=>wpO_val hr (hK' _ _ (wpL_plain hg2 fun K2 hK2=>wpO_val hr2 (hK2 _ _ (K _ _ ⟨X',φ',κ',f',hX,hs'⟩))))
theorem cp_label {P:Program} {X:Cx} {s:AS} {Q:Exit->AS->Prop} {l:Nat} (h:Q .normal s):CP P X (.label l) Q s:=fun _ _ hs=>wpIn_label ⟨s,h,hs⟩
theorem cp_scope {P:Program} {X:Cx} {s:AS} {Q:Exit->AS->Prop} {c:Code} (hρ:X.ρ=none) (hQ:∀ l s,¬ Q (.goto l) s) (h:CP P X c Q s):CP P X (.scope c) Q s:=fun a w hs=>by
 have h1:=h a w hs;rw [hρ] at h1 ⊢;have h2:c.wp P (lift X Q) a w:=wpIn_wide.1 (show c.wpIn Fence.wide 0 P (lift X Q) a w from h1)
 show (Code.scope c).wpIn Fence.wide 0 P (lift X Q) a w
 refine wpIn_wide.2 (wp_scope_straight (Go.wp_mono h2 ?_));intro e a' w' ⟨s',h3,h4⟩
 cases e with
 | goto l=>exact hQ l s' h3
 | _=>exact ⟨s',h3,h4⟩
theorem RetQ.ng {F:Func} {n:List Bool} {Q:AV->List Bx->Prop} (l:Nat) (s:AS):¬ RetQ F n Q (.goto l) s:=fun h=>by
 rcases h.1 with h|h<;>cases h
theorem run_clear_rows {P:Program} (w:World) (t e ty:TypeId) (z:Value) (ht:P.underlying t=some (.slice e)) (hv:∀ w,(zeroValue e).run P w=.ok z w) (b o n c:Nat) (hn:0 < n) (cs:List Value) (hcs:(Builtin.zeroCells z.cells n).toList=cs) (h1:∀ v∈cs,v.oneCell'=true)
 (hc:∀ j,j < cs.length->(w.cell? ⟨b,o + j,none⟩).isSome=true) (hf:∀ j,j < cs.length->w.frozen? ⟨b,o + j,none⟩=false) :
 (Builtin.clear_ #[t] ty #[.slice (some ⟨b,o,none⟩) n c]).run P w=.ok (.tuple #[]) (w.setCells b o cs):=by
 have hst:=run_storeCells_cells (P:=P) b o cs 0 w (by simpa using hc) (by simpa using hf) h1;simp only [Nat.add_zero] at hst;obtain ⟨m,rfl⟩:∃ m,n=m + 1:=⟨n - 1,by omega⟩;simp [Builtin.clear_,run_underlying ht,hv,hcs,hst]
theorem ap_clrK {X:Cx} {s:AS} {ops:Array Oper} {rest:List Oper} {o p:Oper} {Q:Exit->AS->Prop} {T T' e b u i d k:Nat} {x lo:Operand} {s1:List (List AV)} {ti ie:TI} {z:List ZC}
 (hg:o.guard=none) (hg2:p.guard=none) (ho:o.op=.slice T x (some lo) none none) (hd:o.dst=some d) (hdl:d < s.t.length) (hp:p.op=.call { callee:=.builtin .clear,args:=#[.tmp d],argTypes:=#[T'] })
 (hx:aev s x=.hd b u) (hs:s.b[b]? = some ⟨u,.r e k s1⟩) (hT:tt[T]? = some ti) (hk:ti.kd=.sl e) (hT':(match prog.underlying T' with|some (.slice e')=>Nat.beq e e' | _=>false)=true) (he:tt[e]? = some ie) (hn:ie.size=k) (hz:ie.zero=some z) (hk0:Nat.ble 1 k=true)
 (hlo:Bd s (some lo) 0 i) (hil:i < s1.length)
 (K:AP prog X ops Q rest (AS.put (AS.put ⟨s.t,s.b.set b ⟨u,.r e k (s1.take i ++ List.replicate (s1.length - i) (z.map fun c=>AV.sc c.val))⟩⟩ o.dst .de) p.dst (.tu []))):AP prog X ops Q (o :: p :: rest) s:=
 .run2 hg hg2 (fun X φ κ f a w h=>by
  have hk0:=Nat.le_of_ble_eq_true hk0
  have hlo':∃ k,(some lo).map a.eval=some (.int k i):=by
   cases hlo with
   | int hx=>exact ⟨_,by rw [Option.map_some,h.evc hx]⟩
   | lit hx hz=>subst hz;exact ⟨_,by rw [Option.map_some,h.evc hx]⟩
  have hu':prog.underlying T'=some (.slice e):=by
   split at hT'
   ·rename_i e' he';rw [he',Nat.eq_of_beq_eq_true hT']
   ·cases hT'
  obtain ⟨dd,j,hdd,hj,_,hjs,hjb,hzz⟩:=TI.parts (ty he);obtain ⟨zv,hzv,hzc,hzl,_⟩:=hzz z hz;have hzr:∀ w,(zeroValue e).run prog w=.ok zv w:=fun w=>by simp [zeroValue,typeInfo,hj,hzv,go_sem]
  have hzk:z.length=k:=by rw [hzl,hn]
  have hzs:zv.cells.size=k:=by rw [←Array.length_toList,hzc];simpa using hzk
  have h1:=h.evs hx;have h2:=h.sl b _ hs;have hbl:b < s.b.length:=(List.getElem?_eq_some_iff.1 hs).1;have hown:∀ x,f b x≠0->x < w.heap.size:=fun x hx=>h.blk (.inr ⟨b,hbl,hx⟩)
  have hone:∀ x,f b x<=1:=fun x=>by have:=sumF_le f x _ b hbl;have:=h.one x;omega
  generalize hS0:f b=S0 at h2 hown hone;generalize hpv:a.eval x=pv at h1;generalize hm:s1.length - i=m at *
  have hrow:RC w φ κ X.R (zrow z m) (Builtin.zeroCells zv.cells m).toList Ct.z:=RC.of_at (by simp [zrow_length,hzk,Builtin.zeroCells,hzs]) fun i b hi=>by
   have hil:i < m * k:=by have:=(List.getElem?_eq_some_iff.1 hi).1;rwa [zrow_length,hzk] at this
   rw [zrow_at (by omega) m i (by rwa [hzk])] at hi
   injection hi with hi;subst hi
   refine ⟨_,?_,.sc (ZC.one _)⟩;have hm:i % z.length < zv.cells.toList.length:=by rw [hzc];simpa using Nat.mod_lt _ (by omega)
   simp only [Builtin.zeroCells,hzs,Array.toList_map,Array.toList_range,List.getElem?_map,List.getElem?_range hil,Option.map_some,Option.some.injEq];have e9:zv.cells[i % k]! = zv.cells[i % z.length]!:=congrArg (fun m=>zv.cells[i % m]!) hzk.symm;rw [e9,getElem!_pos zv.cells (i % z.length) (by simpa using hm)];have:zv.cells.toList[i % z.length]'hm=(z[i % z.length]'(Nat.mod_lt _ (by omega))).val:=by simp only [hzc,List.getElem_map]
   simpa using this
  have hzl2:(Builtin.zeroCells zv.cells m).toList.length=m * k:=by simp [Builtin.zeroCells,hzs]
  have hone0:∀ v∈(Builtin.zeroCells zv.cells m).toList,v.oneCell'=true:=fun v hv=>by
   obtain ⟨i,hi,rfl⟩:=List.mem_iff_getElem.1 hv;have hil:i < m * k:=by rwa [hzl2] at hi
   obtain ⟨v,hv1,hv2⟩:=hrow.at_ (i:=i) (zrow_at (by omega) m i (by rwa [hzk]));rw [List.getElem?_eq_getElem hi] at hv1;injection hv1 with hv1
   rw [hv1];have:=RV.sc_inv hv2;rw [this];exact ZC.one _
  have hleaf:∀ x∈zrow z m,x.leaf=true:=fun x hx=>by
   obtain ⟨i,hi,rfl⟩:=List.mem_iff_getElem.1 hx;have hil:i < m * z.length:=by rwa [zrow_length] at hi
   have:=zrow_at (z:=z) (by omega) m i hil;rw [List.getElem?_eq_getElem hi] at this;injection this with this
   rw [this];rfl
  have hrez:=RE.chunks_ hk0 m hrow (by rw [zrow_length,hzk]) hone0 hleaf;have e0:chunks k m (zrow z m)=List.replicate m (z.map fun c=>AV.sc c.val):=by rw [←hzk];exact chunks_zrow z m
  rw [e0] at hrez;generalize hcs:(Builtin.zeroCells zv.cells m).toList=cs at *
  cases h1 with
  | @hd _ _ _ hκ hoc=>
   cases h2 with
   | r hκ' hv=>
    rw [hκ] at hκ';injection hκ' with hκ';subst hκ'
    cases hv with
    | ni=>simp at hil
    | ne=>simp at hil
    | @om _ _ _ g c cur us S _ hre hh hle hmx hsz htk hSx=>
     obtain ⟨S1,S2,hr1,hr2,hr3⟩:=hre.split (Nat.le_of_lt hil);have hgl:g < w.heap.size:=hh.lt;have hnk:s1.length * k<=c * k:=Nat.mul_le_mul_right k hle;have hik:i * k + m * k=s1.length * k:=by rw [←Nat.add_mul];congr 1;omega
     have hb:=fun w=>run_bounds (n:=s1.length) (c:=c) (l:=i) (h:=s1.length) (m:=c) (lo:=(some lo).map a.eval) (hi:=none) (mx:=none) (.inr hlo') (.inl ⟨rfl,rfl,rfl⟩) (.inl ⟨rfl,rfl⟩) (by omega) (by omega) (Nat.le_refl _) w
     have hrun1:(execOp a.eval o).run prog w=.ok (.value (.slice (some ⟨g,i * k,none⟩) m (c - i))) w:=by
      have:=run_slice (A:=some ⟨g,0,none⟩) (n:=s1.length) (c:=c) (l:=i) (h:=s1.length) (m:=c) (lo:=(some lo).map a.eval) (hi:=none) (mx:=none) hT hk he hb w
      have e1:(if c=i then some (⟨g,0,none⟩:Addr) else (some (⟨g,0,none⟩:Addr)).map (·.add (i * ie.size)))=some ⟨g,i * k,none⟩:=by
       rw [if_neg (by omega),hn];simp only [Option.map_some,addr_mid,Nat.zero_add]
      rw [e1,hm] at this;simp only [execOp,ho,hpv,Option.map_none,Sem.run_bind,this];rfl
     have hev:(a.put o.dst (.slice (some ⟨g,i * k,none⟩) m (c - i))).eval (.tmp d)=.slice (some ⟨g,i * k,none⟩) m (c - i):=by
      have hlen:d < a.tmps.size:=by have:=h.tm.length;rw [Array.length_toList] at this;omega
      rw [hd];simp [Act.put,Act.eval,hlen]
     have hrun2:(execOp (a.put o.dst (.slice (some ⟨g,i * k,none⟩) m (c - i))).eval p).run prog w=.ok (.value (.tuple #[])) (w.setCells g (i * k) cs):=by
      have:=run_clear_rows (P:=prog) w T' e p.type zv hu' hzr g (i * k) m (c - i) (by omega) cs hcs hone0 (fun j hj=>by
       rw [hh.cell];rw [Array.getElem?_eq_getElem (by omega)];rfl) (fun j hj=>hh.frozen (by omega))
      simp only [execOp,hp,resolve,invoke,builtin,Sem.run_bind,Sem.run_pure,Result.andThen_ok,List.map_toArray,List.map_cons,List.map_nil,hev,this]
     have hne:∀ x,x≠g->(w.setCells g (i * k) cs).heap[x]? = w.heap[x]?:=fun x hx=>heap_setCells_ne g _ _ w x hx
     have hh':Mk (w.setCells g (i * k) cs) g (spl cur.toList (i * k) cs).toArray e:=by
      obtain ⟨z,hz1,hz2⟩:=hh;exact ⟨z,heap_setCellsZ g e z cs cur.toList _ w (by simpa using hz1),by simpa [spl_length] using hz2⟩
     have hblkR:∀ x,X.R x->(w.setCells g (i * k) cs).heap[x]? = w.heap[x]?:=fun x hx=>by
      have h3:=h.not_rd hx;have h4:=sumF_le f x _ b hbl;rw [hS0] at h4;have h5:=hSx x;exact hne x (by rintro rfl;simp at h5;omega)
     have hblkS:∀ x,S1 x≠0->(w.setCells g (i * k) cs).heap[x]? = w.heap[x]?:=fun x hx=>by
      have h5:=hSx x;have h6:=hone x;have h7:=hr3 x;exact hne x (by rintro rfl;simp at h5;omega)
     have hre2:=RE.append (RE.keep hblkR hr1 hblkS) (RE.keep hblkR hrez fun x hx=>absurd rfl hx) (U:=S1) fun x=>by simp [Ct.z]
     have hlen2:(s1.take i ++ List.replicate m (z.map fun c=>AV.sc c.val)).length=s1.length:=by simp;omega
     have hmid:SatW X φ κ f Ct.z (s.put o.dst .de) (a.put o.dst (.slice (some ⟨g,i * k,none⟩) m (c - i))) w:=h.puts o.dst .de;have hsm:(s.put o.dst .de).b=s.b:=by rw [hd];rfl
     have e9:AS.put ⟨s.t,s.b.set b ⟨u,.r e k (s1.take i ++ List.replicate m (z.map fun c=>AV.sc c.val))⟩⟩ o.dst .de=⟨(s.put o.dst .de).t,s.b.set b ⟨u,.r e k (s1.take i ++ List.replicate m (z.map fun c=>AV.sc c.val))⟩⟩:=by rw [hd];rfl
     rw [e9];refine ⟨_,w,_,_,φ,κ,updF f b (fun x=>(if x=g then 1 else 0) + S1 x),hrun1,hrun2,SatW.puts ?_ p.dst (RV.tu RC.nil)⟩;have hm2:=hmid.turn (w':=w.setCells g (i * k) cs) (B:=.r e k (s1.take i ++ List.replicate m (z.map fun c=>AV.sc c.val))) (u:=u) (g:=fun x=>(if x=g then 1 else 0) + S1 x) (L':=Ct.z) (j:=b) (e:=⟨u,.r e k s1⟩) (by rw [hsm];exact hs) (fun _ _ _ h=>h) (fun _ _ _ h=>h) (by rw [size_setCells];exact Nat.le_refl _) (os_setCells' g _ _ w) (tape_setCells g _ _ w) (out_setCells g _ _ w) ?_ (.r hκ ?_) ?_ ?_ (Nat.le_refl _) (fun _ _ _ h=>h) (fun _ _ _ h=>h)
     ·rw [hsm] at hm2;exact hm2
     ·intro x hx h0;rw [hS0] at h0;have:=hSx x;exact hne x (by rintro rfl;simp at this;omega)
     ·have:=RV.om (e:=e) hre2 hh' (by rw [hlen2];exact hle) hmx (by simpa [spl_length] using hsz) (by
       rw [hlen2,←hik,←hzl2]
       show (spl cur.toList (i * k) cs).take _=_
       rw [spl_take _ _ _ (by rw [hzl2];simp;omega)]
       congr 1
       rw [←htk,List.take_take,Nat.min_eq_left (by omega)]) (T:=fun x=>(if x=g then 1 else 0) + S1 x) fun _=>rfl
      rw [hlen2] at this;exact this
     ·intro x hx;rw [hS0];have:=hSx x;have:=hr3 x;simp only [Ct.z];omega
     ·intro x hx;simp only [Ct.z]
      have h7:S1 x=0:=by
       by_cases h8:S1 x=0
       ·exact h8
       ·have:=hown x (by rw [hSx,hr3];omega);omega
      rw [h7];split
      ·omega
      ·simp
    ) K
theorem AP.CW {X:Cx} {s:AS} {ops:Array Oper} {rest:List Oper} {Q:Exit->AS->Prop} {T T' e b u i d k:Nat} {lo:Operand} {s1:List (List AV)} {ti ie:TI} {z:List ZC} {x:Operand} {ty ty2:Nat} {pos pos2:String} {aft aft2:Array Edge} {d2:Option Nat}
 (K:AP prog X ops Q rest (AS.put (AS.put ⟨s.t,s.b.set b ⟨u,.r e k (s1.take i ++ List.replicate (s1.length - i) (z.map fun c=>AV.sc c.val))⟩⟩ (some d) .de) d2 (.tu []))) (hdl:Nat.blt d s.t.length=true:=by exact rfl)
 (hx:aev s x=.hd b u:=by exact rfl) (hs:s.b[b]? = some ⟨u,.r e k s1⟩:=by exact rfl) (hT:tt[T]? = some ti:=by exact rfl) (hk:ti.kd=.sl e:=by exact rfl) (hT':(match prog.underlying T' with|some (.slice e')=>Nat.beq e e' | _=>false)=true:=by kernel_rfl) (he:tt[e]? = some ie:=by exact rfl) (hn:ie.size=k:=by exact rfl) (hz:ie.zero=some z:=by exact rfl) (hk0:Nat.ble 1 k=true:=by exact rfl)
 (hlo:Bd s (some lo) 0 i:=by (first|exact .int rfl|exact .lit rfl rfl)) (hil:i < s1.length:=by (first|assumption|omega)) :
 AP prog X ops Q (⟨some d,.slice T x (some lo) none none,ty,pos,aft,none⟩ :: ⟨d2,.call { callee:=.builtin .clear,args:=#[.tmp d],argTypes:=#[T'] },ty2,pos2,aft2,none⟩ :: rest) s:=
 ap_clrK rfl rfl rfl rfl (by simpa using hdl) rfl hx hs hT hk hT' he hn hz hk0 hlo hil K
theorem spl_leaf:∀ (us vs:List AV) (o:Nat),(∀ v∈vs,v.leaf=true)->(∀ v∈us,v.leaf=true)->∀ v∈spl vs o us,v.leaf=true
 | [],vs,o,h,_=>h
 | u :: us,vs,o,h,k=>spl_leaf us (vs.set o u) (o + 1) (fun v hv=>by
  rcases List.mem_or_eq_of_mem_set hv with hv|rfl
  ·exact h v hv
  ·exact k v (by simp)) fun v hv=>k v (by simp [hv])
theorem ap_storeK {X:Cx} {s:AS} {ops:Array Oper} {rest:List Oper} {o:Oper} {Q:Exit->AS->Prop} {T e k:Nat} {x y:Operand} {b u i off:Nat} {s1:List (List AV)} {c:List AV} {av:AV} {ti:TI} (hg:o.guard=none) (ho:o.op=.store T x y) (hx:aev s x=.ep b u k i off) (hs:s.b[b]? = some ⟨u,.r e k s1⟩) (hy:aev s y=av) (hkn:av.known=true) (hlf:av.cells.all AV.leaf=true)
 (hT:tt[T]? = some ti) (hn:av.cells.length=ti.size) (hc:s1[i]? = some c) (hct:ntC c=true) (hl:Nat.ble (off + ti.size) c.length=true)
 (K:AP prog X ops Q rest (AS.put ⟨s.t,s.b.set b ⟨u,.r e k (s1.set i (spl c off av.cells))⟩⟩ o.dst (.tu []))):AP prog X ops Q (o :: rest) s:=
 .runU hg (fun X φ κ f a w h=>by
  have hl:=Nat.le_of_ble_eq_true hl;obtain ⟨hr,hv1⟩:=(h.evs hy).cells_ hkn;obtain ⟨d,j,hd,hj,_,hjs,_⟩:=TI.parts (ty hT);have h1:=h.evs hx;have h2:=h.sl b _ hs;have hbl:b < s.b.length:=(List.getElem?_eq_some_iff.1 hs).1;have hown:∀ x,f b x≠0->x < w.heap.size:=fun x hx=>h.blk (.inr ⟨b,hbl,hx⟩)
  have hone:∀ x,f b x<=1:=fun x=>by have:=sumF_le f x _ b hbl;have:=h.one x;omega
  generalize hS0:f b=S0 at h2 hown hone;generalize hp:a.eval x=p at h1
  cases h1 with
  | @ep _ _ _ _ _ g n c' hκ=>
   cases h2 with
   | r hκ' hv=>
    rw [hκ] at hκ';injection hκ' with hκ';subst hκ'
    cases hv with
    | ne=>simp at hc
    | @om _ _ _ _ _ cur us S _ hre hh hle hm hsz htk hSx=>
     obtain ⟨us1,cs,us2,S1,Sc,S2,e1,e2,e3,e4,e5,e6,rfl,e8⟩:=hre.part hc;have:=RC.nt e2 hct;subst this;have hil:i < s1.length:=(List.getElem?_eq_some_iff.1 hc).1;have hgl:g < w.heap.size:=hh.lt;have hclen:=e2.length;have hlen:=hr.length
     have hpos:i * k + k<=s1.length * k:=by
      have:(i + 1) * k<=s1.length * k:=Nat.mul_le_mul_right k hil;rw [Nat.add_mul] at this;omega
     have hpos2:s1.length * k<=cur.size:=by rw [hsz];exact Nat.mul_le_mul_right k hle
     have hth:w.there g (i * k + off) ti.size:=fun j hj=>by
      refine ⟨?_,hh.frozen (by omega)⟩;rw [hh.cell];simp;omega
     have hrun:=run_storeAny (P:=prog) (T:=T) (b:=g) (off:=i * k + off) (v:=a.eval y) w (n:=ti.size) (by rw [hj];simp [hjs]) (by rw [←hn,←hlen];simp) hv1 hth
     have hrun':(execOp a.eval o).run prog w=.ok .skip (w.setCells g (i * k + off) (a.eval y).cells.toList):=by
      simp only [execOp,ho,hp,Sem.run_bind,hrun];rfl
     generalize hU:(a.eval y).cells.toList=us at hr hv1 hlen hrun';have hmk':=hh.spl us (i * k + off);have hblk:∀ x,x≠g->(w.setCells g (i * k + off) us).heap[x]? = w.heap[x]?:=fun x hx=>heap_setCells_ne g _ _ w x hx
     have hR:∀ x,X.R x->(w.setCells g (i * k + off) us).heap[x]? = w.heap[x]?:=fun x hx=>by
      have h3:=h.not_rd hx;have h4:=sumF_le f x _ b hbl;rw [hS0] at h4;have h5:=hSx x;exact hblk x (by rintro rfl;simp at h5;omega)
     have hSk:∀ x,S x≠0->(w.setCells g (i * k + off) us).heap[x]? = w.heap[x]?:=fun x hx=>by
      have h5:=hSx x;have h6:=hone x;exact hblk x (by rintro rfl;simp at h5;omega)
     have hol:off + us.length<=cs.length:=by omega
     have hus1:us1.length=i * k:=by have:=e1.length;rw [this,List.length_take,Nat.min_eq_left (Nat.le_of_lt hil)]
     have htk':((spl cur.toList (i * k + off) us).toArray.toList).take (s1.length * k)=us1 ++ spl cs off us ++ us2:=by
      have h7:cur.toList=us1 ++ cs ++ (us2 ++ cur.toList.drop (s1.length * k)):=by
       have:=List.take_append_drop (s1.length * k) cur.toList;rw [htk] at this;rw [←List.append_assoc];exact this.symm
      have h8:(us1 ++ cs ++ us2).length=s1.length * k:=by rw [←htk,List.length_take];simp;omega
      have h9:spl cur.toList (i * k + off) us=us1 ++ spl cs off us ++ (us2 ++ cur.toList.drop (s1.length * k)):=by
       conv=>lhs;rw [h7]
       rw [←hus1,spl_append_mid us us1 cs _ off hol]
      show (spl cur.toList (i * k + off) us).take _=_
      rw [h9,←List.append_assoc];exact List.take_left' (by simp only [List.length_append,spl_length] at h8 ⊢;exact h8)
     have h1s:∀ v∈spl cs off us,v.oneCell'=true:=spl_one e4 hv1;have hre2:=RE.join (k:=k) (n:=i) (s:=s1) (c:=spl c off av.cells) (cs:=spl cs off us) (S:=S) hil (RE.keep hR e1 fun x hx=>hSk x (by rw [e8];omega)) (RC.keep hR (RC.spl_ e2 hr) fun x hx=>absurd rfl hx) (by rw [spl_length];exact e3) h1s (spl_leaf av.cells c off e5 (fun x hx=>List.all_eq_true.1 hlf x hx)) (RE.keep hR e6 fun x hx=>hSk x (by rw [e8];omega)) fun x=>by rw [e8]
     refine ⟨_,φ,κ,updF f b (fun x=>(if x=g then 1 else 0) + S x),hrun',SatW.puts ?_ o.dst (RV.tu RC.nil)⟩;refine h.turn (w':=w.setCells g (i * k + off) us) hs (fun _ _ _ h=>h) (fun _ _ _ h=>h) (by rw [size_setCells];exact Nat.le_refl _) (os_setCells' g _ _ w) (tape_setCells g _ _ w) (out_setCells g _ _ w) ?_ (.r hκ ?_) (g:=fun x=>(if x=g then 1 else 0) + S x) (L':=Ct.z) ?_ ?_ (Nat.le_refl _) (fun _ _ _ h=>h) (fun _ _ _ h=>h)
     ·intro x hx h0;rw [hS0] at h0;have:=hSx x;exact hblk x (by rintro rfl;simp at this;omega)
     ·have:=RV.om (e:=e) hre2 hmk' (by simpa using hle) hm (by simpa [spl_length] using hsz) (by rw [List.length_set];exact htk') (T:=fun x=>(if x=g then 1 else 0) + S x) fun _=>rfl
      simpa using this
     ·intro x hx;rw [hS0];have:=hSx x;simp only [Ct.z];omega
     ·intro x hx;simp only [Ct.z]
      have h7:S x=0:=by
       by_cases h8:S x=0
       ·exact h8
       ·have:=hown x (by rw [hSx];omega);omega
      rw [h7];split
      ·omega
      ·simp) K
theorem AP.TK {X:Cx} {s:AS} {ops:Array Oper} {rest:List Oper} {Q:Exit->AS->Prop} {T e k:Nat} {x y:Operand} {b u i off:Nat} {s1:List (List AV)} {c:List AV} {av:AV} {ti:TI} {d:Option Nat} {ty:Nat} {pos:String} {aft:Array Edge} (K:AP prog X ops Q rest (AS.put ⟨s.t,s.b.set b ⟨u,.r e k (s1.set i (spl c off av.cells))⟩⟩ d (.tu [])))
 (hx:aev s x=.ep b u k i off:=by exact rfl) (hs:s.b[b]? = some ⟨u,.r e k s1⟩:=by exact rfl) (hy:aev s y=av:=by exact rfl) (hkn:av.known=true:=by exact rfl) (hlf:av.cells.all AV.leaf=true:=by exact rfl)
 (hT:tt[T]? = some ti:=by exact rfl) (hn:av.cells.length=ti.size:=by exact rfl) (hc:s1[i]? = some c:=by assumption) (hct:ntC c=true:=by exact rfl) (hl:Nat.ble (off + ti.size) c.length=true:=by exact rfl):AP prog X ops Q (⟨d,.store T x y,ty,pos,aft,none⟩ :: rest) s:=ap_storeK rfl rfl hx hs hy hkn hlf hT hn hc hct hl K
theorem pq_andn {X:Cx} {s:AS} {o:Oper} {T T':TypeId} {x y:Operand} {k:IntKind} {i j:Int} (ho:o.op=.binOp .andNot T x y T') (hx:aev s x=.sc (.int k i)) (hy:aev s y=.sc (.int k j)):Pq prog X s o (.sc (.int k (k.wrap ((BitVec.ofInt k.bits i) &&& ~~~(BitVec.ofInt k.bits j)).toNat))):=.of_run fun X φ κ f a w hs=>by
 have h1:=hs.evc hx;have h2:=hs.evc hy;refine ⟨_,.sc rfl,fun w' _=>?_⟩;simp only [execOp,ho,h1,h2];simp [eqGuard,binOp,Op.intArith,Op.intCmp,Op.intBits,Sem.run_bind,Sem.run_pure,go_sem]
theorem AP.BN {X:Cx} {s:AS} {ops:Array Oper} {rest:List Oper} {Q:Exit->AS->Prop} {T T':TypeId} {x y:Operand} {k:IntKind} {i j:Int} {d:Option Nat} {ty:Nat} {pos:String} {aft:Array Edge} (K:AP prog X ops Q rest (s.put d (.sc (.int k (k.wrap ((BitVec.ofInt k.bits i) &&& ~~~(BitVec.ofInt k.bits j)).toNat))))) (hx:aev s x=.sc (.int k i):=by exact rfl) (hy:aev s y=.sc (.int k j):=by exact rfl):AP prog X ops Q (⟨d,.binOp .andNot T x y T',ty,pos,aft,none⟩ :: rest) s:=AP.pure rfl (pq_andn rfl hx hy) K
structure Gr where
 rts:UInt8
 exp:Int
 ser:Int
abbrev eGr (g:Gr):List AV:=[U g.rts,I g.exp,I g.ser]
abbrev grA (l:List Gr):AV:=.sl none 3 (l.map eGr)
def grS (g:Gr):Bool:=decide (g.rts.toNat<=15) && decide (0<=g.exp) && decide (g.exp<=1099511627776) && decide (1<=g.ser) && decide (g.ser<=1099511627776)
theorem gmay_ac (g:Gr):AF 94 [.ag (eGr g)] (B (grS g)):=by
 refine AC.E func94 ntmps94 ?_;intros;refine CP.SL ?_
 repeat' (first|((first|refine wA1 ?_|(refine GA ?_ ?_<;>intro hg)|(refine GV ?_;intros;simp only [nz])|refine wA6 ?_)<;>try refine NQ ?_)|refine wT3 ?_|with_reducible intro Q' hQ'|(refine GC ?_ ?_<;>intro hc)|simp only [laq])
 all_goals (refine RB1 ?_;((refine ⟨congrArg B ?_,rfl⟩;(repeat (rename AC _ _ _ _ _=>hzz;clear hzz));rw [Bool.eq_iff_iff];simp [grS] at *;omega)))
def hasR (r need:UInt8):Bool:=need &&& ~~~r == 0
theorem wrap_u8n {n:Nat} (h:n < 256):IntKind.u8.wrap (n:Int)=n:=by
 simp [IntKind.wrap,IntKind.bits,IntKind.signed];omega
theorem ofI8 (x:UInt8):BitVec.ofInt 8 (x.toNat:Int)=x.toBitVec:=by apply BitVec.eq_of_toNat_eq;simp
theorem andn8' (x y:UInt8):IntKind.u8.wrap ((BitVec.toNat (BitVec.ofInt 8 (x.toNat:Int) &&& ~~~(BitVec.ofInt 8 (y.toNat:Int))):Nat):Int)=((x &&& ~~~y).toNat:Int):=by
 rw [ofI8,ofI8];have h:(x.toBitVec &&& ~~~y.toBitVec).toNat=(x &&& ~~~y).toNat:=rfl;rw [h];exact wrap_u8n (x &&& ~~~y).toNat_lt
theorem andn8 (x y:UInt8):IntKind.u8.wrap (((BitVec.ofInt IntKind.u8.bits (x.toNat:Int)) &&& ~~~(BitVec.ofInt IntKind.u8.bits (y.toNat:Int))).toNat:Int)=((x &&& ~~~y).toNat:Int):=andn8' x y
theorem and8' (x y:UInt8):IntKind.u8.wrap ((BitVec.toNat (BitVec.ofInt 8 (x.toNat:Int) &&& BitVec.ofInt 8 (y.toNat:Int)):Nat):Int)=((x &&& y).toNat:Int):=by
 rw [ofI8,ofI8];have h:(x.toBitVec &&& y.toBitVec).toNat=(x &&& y).toNat:=rfl;rw [h];exact wrap_u8n (x &&& y).toNat_lt
theorem and8 (x y:UInt8):IntKind.u8.wrap (((BitVec.ofInt IntKind.u8.bits (x.toNat:Int)) &&& (BitVec.ofInt IntKind.u8.bits (y.toNat:Int))).toNat:Int)=((x &&& y).toNat:Int):=and8' x y
theorem wA7 {G G':Prop} (K:G') (h:G'->G:=by (intro kz;(with_reducible apply AP.k_any);exact AP.BN kz)):G:=h K
theorem has_ac (r need:UInt8):AF 18 [U r,U need] (B (hasR r need)):=by
 have q1:=andn8 need r
 have q2:(((need &&& ~~~r).toNat:Int) == 0)=hasR r need:=by
  unfold hasR;rw [Bool.eq_iff_iff];simp [←UInt8.toNat_inj]
 refine AC.E func18 ntmps18 ?_;intros
 repeat' (first|((first|refine wA1 ?_|(refine GA ?_ ?_<;>intro hg)|(refine GV ?_;intros;simp only [nz])|refine wA7 ?_|refine wA6 ?_)<;>try refine wN1 ?_)|refine wT3 ?_|with_reducible intro Q' hQ'|(refine GC ?_ ?_<;>intro hc)|simp only [laq])
 exact RA0
def lineS (l:List Gr):Bool:=decide (1<=l.length) && decide (l.length<=4) && l.all grS
theorem wT4 {G G':Prop} (K:G') (h:G'->G:=by (intro kz;first|exact CP.T2 kz|((with_reducible apply CP.k_reg);exact cp_regG kz))):G:=h K
theorem line_ac (l:List Gr) (hl:l.length<=1000000):AF 47 [grA l] (B (lineS l)):=by
 by_cases hB:1<=l.length/\l.length<=4
 rotate_left
 ·rw [show lineS l=false by unfold lineS;rw [show (decide (1<=l.length) && decide (l.length<=4))=false by rw [←Bool.decide_and];exact decide_eq_false hB];rfl]
  by_cases h1:l.length < 1
  ·have q1:decide ((l.length:Int) < 1)=true:=decide_eq_true (by omega);refine AC.E func47 ntmps47 ?_;intros;refine CP.SL ?_
   repeat' (first|((first|refine wA1 ?_|(refine GA ?_ ?_<;>intro hg)|(refine GV ?_;intros;simp only [nz])|refine wA6 ?_)<;>try refine wN0 ?_)|refine wT3 ?_|with_reducible intro Q' hQ'|(refine GC ?_ ?_<;>intro hc)|simp only [laq])
   exact RA0
  ·have q1:decide ((l.length:Int) < 1)=false:=decide_eq_false (by omega);have q2:decide ((4:Int) < (l.length:Int))=true:=decide_eq_true (by omega);refine AC.E func47 ntmps47 ?_;intros;refine CP.SL ?_
   repeat' (first|((first|refine wA1 ?_|(refine GA ?_ ?_<;>intro hg)|(refine GV ?_;intros;simp only [nz])|refine wA6 ?_)<;>try refine wN1 ?_)|refine wT3 ?_|with_reducible intro Q' hQ'|(refine GC ?_ ?_<;>intro hc)|simp only [laq])
   exact RA0
 have hM:lineS l=l.all grS:=by unfold lineS;rw [decide_eq_true hB.1,decide_eq_true hB.2];rfl
 have q1:decide ((l.length:Int) < 1)=false:=decide_eq_false (by omega);have q2:decide ((4:Int) < (l.length:Int))=false:=decide_eq_false (by omega);refine AC.E func47 ntmps47 ?_;intros;refine CP.SL ?_
 repeat' (first|((first|refine wA1 ?_|(refine GA ?_ ?_<;>intro hg)|(refine GV ?_;intros;simp only [nz])|refine wA6 ?_)<;>try refine wN1 ?_)|refine wT3 ?_|with_reducible intro Q' hQ'|(refine GC ?_ ?_<;>intro hc)|simp only [laq])
 refine cp_loopS [2,4,15,16,17,18,19,20,21,22] (fun a:Nat=>l.length - a) (fun a=>a<=l.length/\l.all grS=(l.drop a).all grS) (fun a=>[(15,I a)]) (fun a=>[(0,⟨a,.x⟩)]) 0 ⟨Nat.zero_le _,rfl⟩ (by exact Gh.W) ?_;rintro a ⟨ha,hinv⟩;refine ST0 ?_
 by_cases hlt:a < l.length
 ·have q3:decide ((a:Int) < (l.length:Int))=true:=by simp;omega
  have q4:IntKind.i64.wrap ((a:Int) + 1)=((a + 1:Nat):Int):=wrap_i64 (by omega) (by omega);have hr:(l.map eGr)[a]? = some (eGr l[a]):=by rw [List.getElem?_map,List.getElem?_eq_getElem hlt];rfl
  have h2:=gmay_ac l[a];rw [List.drop_eq_getElem_cons hlt,List.all_cons] at hinv;generalize l[a]=p at *
  cases hp:grS p with
  | false=>
   rw [hp] at h2 hinv;rw [hM,hinv]
   repeat' (first|((first|refine wA1 ?_|(refine GA ?_ ?_<;>intro hg)|(refine GV ?_;intros;simp only [nz])|refine wA6 ?_)<;>(try simp only [q3,q4,nq,Nat.reduceBEq,Nat.reduceAdd,Nat.reduceSub]))|refine wT4 ?_|with_reducible intro Q' hQ'|(refine GC ?_ ?_<;>intro hc)|simp only [laq])
   exact RA0
  | true=>
   rw [hp,Bool.true_and] at hinv;rw [hp] at h2
   repeat' (first|((first|refine wA1 ?_|(refine GA ?_ ?_<;>intro hg)|(refine GV ?_;intros;simp only [nz])|refine wA6 ?_)<;>(try simp only [q3,q4,nq,Nat.reduceBEq,Nat.reduceAdd,Nat.reduceSub]))|refine wT4 ?_|with_reducible intro Q' hQ'|(refine GC ?_ ?_<;>intro hc)|simp only [laq])
   exact ⟨a + 1,by omega,⟨by omega,hinv⟩,by exact Gh.W⟩
 ·obtain rfl:a=l.length:=by omega
  have q3:decide ((l.length:Int) < (l.length:Int))=false:=by simp
  rw [hM,hinv,List.drop_length]
  repeat' (first|((first|refine wA1 ?_|(refine GA ?_ ?_<;>intro hg)|(refine GV ?_;intros;simp only [nz])|refine wA6 ?_)<;>try refine wN20 ?_)|refine wT4 ?_|with_reducible intro Q' hQ'|(refine GC ?_ ?_<;>intro hc)|simp only [laq])
  exact RA0
def rtsF (l:List Gr):UInt8:=l.foldl (fun r g=>r &&& g.rts) 15
def expF (l:List Gr):Int:=l.foldl (fun x g=>if g.exp < x then g.exp else x) 1099511627776
def leavesS (l:List Gr):UInt8×Int×Int:=if lineS l=true then (rtsF l,expF l,0) else (0,0,2)
theorem leaves_ac (l:List Gr) (hl:l.length<=1000000):AF 15 [grA l] (.tu [U (leavesS l).1,I (leavesS l).2.1,I (leavesS l).2.2]):=by
 have h1:=line_ac l hl;unfold leavesS
 cases hL:lineS l with
 | false=>
  rw [hL] at h1;rw [if_neg (by simp)];refine AC.E func15 ntmps15 ?_;intros;refine CP.SL ?_
  repeat' (first|((first|refine wA1 ?_|(refine GA ?_ ?_<;>intro hg)|(refine GV ?_;intros;simp only [nz])|refine wA6 ?_)<;>try refine NQ ?_)|refine wT3 ?_|with_reducible intro Q' hQ'|(refine GC ?_ ?_<;>intro hc)|simp only [laq])
  exact RA0
 | true=>
  rw [hL] at h1;rw [if_pos rfl];have z0:(15:Int)=(((15:UInt8).toNat:Nat):Int):=rfl;refine AC.E func15 ntmps15 ?_;intros;refine CP.SL ?_
  repeat' (first|((first|refine wA1 ?_|(refine GA ?_ ?_<;>intro hg)|(refine GV ?_;intros;simp only [nz])|refine wA6 ?_)<;>try refine NQ ?_)|refine wT3 ?_|with_reducible intro Q' hQ'|(refine GC ?_ ?_<;>intro hc)|simp only [laq])
  clear h1;refine cp_loopS [2,3,6,12,13,14,15,16,17,18,19,20,21,22,23,24] (fun a:Nat=>l.length - a) (fun a=>a<=l.length) (fun a=>[(12,I a),(2,U (rtsF (l.take a))),(3,I (expF (l.take a)))]) (fun a=>[(0,⟨a,.x⟩)]) 0 (Nat.zero_le _) (by exact Gh.W) ?_;rintro a ha;refine ST0 ?_
  by_cases hlt:a < l.length
  ·have q3:decide ((a:Int) < (l.length:Int))=true:=by simp;omega
   have q4:IntKind.i64.wrap ((a:Int) + 1)=((a + 1:Nat):Int):=wrap_i64 (by omega) (by omega);have hr:(l.map eGr)[a]? = some (eGr l[a]):=by rw [List.getElem?_map,List.getElem?_eq_getElem hlt];rfl
   have e1:rtsF (l.take (a + 1))=rtsF (l.take a) &&& l[a].rts:=by unfold rtsF;rw [List.take_succ_eq_append_getElem hlt,List.foldl_append];rfl
   have e2:expF (l.take (a + 1))=if l[a].exp < expF (l.take a) then l[a].exp else expF (l.take a):=by unfold expF;rw [List.take_succ_eq_append_getElem hlt,List.foldl_append];rfl
   have q5:=and8 (rtsF (l.take a)) l[a].rts;rw [←e1] at q5;have q6:=e2.symm;generalize l[a]=p at *
   repeat' (first|((first|refine wA1 ?_|(refine GA ?_ ?_<;>intro hg)|(refine GV ?_;intros;simp only [nz])|refine wA6 ?_)<;>(try simp only [q3,q4,q5,q6,nq,Nat.reduceBEq,Nat.reduceAdd,Nat.reduceSub]))|refine wT4 ?_|with_reducible intro Q' hQ'|(refine GC ?_ ?_<;>intro hc)|simp only [laq])
   exact ⟨a + 1,by omega,by omega,by exact Gh.W⟩
  ·obtain rfl:a=l.length:=by omega
   have q3:decide ((l.length:Int) < (l.length:Int))=false:=by simp
   rw [List.take_length]
   repeat' (first|((first|refine wA1 ?_|(refine GA ?_ ?_<;>intro hg)|(refine GV ?_;intros;simp only [nz])|refine wA6 ?_)<;>try refine wN20 ?_)|refine wT4 ?_|with_reducible intro Q' hQ'|(refine GC ?_ ?_<;>intro hc)|simp only [laq])
   exact RA0
def idxI (l:List Int) (n:Int):Int:=idxF (fun x=>x == n) l
theorem iidx_ac (l:List Int) (n:Int) (hl:l.length<=1000000):AF 215 [.sl none 1 (l.map eI),I n] (I (idxI l n)):=by
 refine AC.E func215 ntmps215 ?_;intros
 repeat' (first|((first|refine wA1 ?_|(refine GA ?_ ?_<;>intro hg)|(refine GV ?_;intros;simp only [nz])|refine wA6 ?_)<;>try refine NQ ?_)|refine wT3 ?_|with_reducible intro Q' hQ'|(refine GC ?_ ?_<;>intro hc)|simp only [laq])
 refine cp_loopS [4,5,8,9,10,11,12,13,14,15,16,17,18] (fun a:Nat=>l.length - a) (fun a=>a<=l.length/\∀ i x,i < a->l[i]? = some x->(x == n)=false) (fun a=>[(8,I a)]) (fun _=>[]) 0 ⟨Nat.zero_le _,fun i x h=>absurd h (by omega)⟩ (by exact Gh.W) ?_;rintro a ⟨ha,hinv⟩;refine ST0 ?_
 by_cases hlt:a < l.length
 ·have q1:decide ((a:Int) < (l.length:Int))=true:=by simp;omega
  have q2:IntKind.i64.wrap ((a:Int) + 1)=((a + 1:Nat):Int):=wrap_i64 (by omega) (by omega);have hr:(l.map eI)[a]? = some (eI l[a]):=by rw [List.getElem?_map,List.getElem?_eq_getElem hlt];rfl
  cases hp:(l[a] == n) with
  | true=>
   rw [show idxI l n=(a:Int) from idxF_at hlt hp hinv];have q3:(n == l[a])=true:=by rw [beq_iff_eq] at hp ⊢;exact hp.symm
   generalize l[a]=x at *
   repeat' (first|((first|refine wA1 ?_|(refine GA ?_ ?_<;>intro hg)|(refine GV ?_;intros;simp only [nz])|refine wA6 ?_)<;>try refine wN18 ?_)|refine wT3 ?_|with_reducible intro Q' hQ'|(refine GC ?_ ?_<;>intro hc)|simp only [laq])
   exact RA0
  | false=>
   have hinv2:∀ i x,i < a + 1->l[i]? = some x->(x == n)=false:=fun i x hi hx=>by
    by_cases hia:i=a
    ·subst hia;rw [List.getElem?_eq_getElem hlt] at hx;injection hx with hx;rw [←hx];exact hp
    ·exact hinv i x (by omega) hx
   have q3:(n == l[a])=false:=by rw [beq_eq_false_iff_ne] at hp ⊢;exact fun h=>hp h.symm
   generalize l[a]=x at *
   repeat' (first|((first|refine wA1 ?_|(refine GA ?_ ?_<;>intro hg)|(refine GV ?_;intros;simp only [nz])|refine wA6 ?_)<;>try refine wN18 ?_)|refine wT3 ?_|with_reducible intro Q' hQ'|(refine GC ?_ ?_<;>intro hc)|simp only [laq])
   exact ⟨a + 1,by omega,⟨by omega,hinv2⟩,by exact Gh.W⟩
 ·obtain rfl:a=l.length:=by omega
  have q1:decide ((l.length:Int) < (l.length:Int))=false:=by simp
  rw [show idxI l n = -1 from idxF_no fun x hx=>by obtain ⟨i,hi⟩:=List.mem_iff_getElem?.1 hx;exact hinv i x (List.getElem?_eq_some_iff.1 hi).1 hi]
  repeat' (first|((first|refine wA1 ?_|(refine GA ?_ ?_<;>intro hg)|(refine GV ?_;intros;simp only [nz])|refine wA6 ?_)<;>try refine wN0 ?_)|refine wT3 ?_|with_reducible intro Q' hQ'|(refine GC ?_ ?_<;>intro hc)|simp only [laq])
  exact RA0
theorem idxF_any {α:Type} (p:α->Bool) (l:List α):decide (0<=idxF p l)=l.any p:=by
 rcases idxF_cases p l with ⟨e,h⟩|⟨n,x,e,hx,hp,_⟩
 ·rw [e,show l.any p=false from List.any_eq_false.2 fun x hx=>by rw [h x hx];simp];rfl
 ·rw [e,show l.any p=true from List.any_eq_true.2 ⟨x,List.mem_of_getElem? hx,hp⟩];exact decide_eq_true (by omega)
def hasI (l:List Int) (n:Int):Bool:=l.any fun x=>x == n
theorem icont_ac (l:List Int) (n:Int) (hl:l.length<=1000000):AF 194 [.sl none 1 (l.map eI),I n] (B (hasI l n)):=by
 have h1:=iidx_ac l n hl;have q1:decide (0<=idxI l n)=hasI l n:=idxF_any _ _;refine AC.E func194 ntmps194 ?_;intros
 repeat' (first|((first|refine wA1 ?_|(refine GA ?_ ?_<;>intro hg)|(refine GV ?_;intros;simp only [nz])|refine wA6 ?_)<;>try refine wN0 ?_)|refine wT3 ?_|with_reducible intro Q' hQ'|(refine GC ?_ ?_<;>intro hc)|simp only [laq])
 exact RA0
theorem rhas_ac (l:List Int) (n:Int) (hl:l.length<=1000000):AF 168 [.sl none 1 (l.map eI),I n] (B (hasI l n)):=by
 have h1:=icont_ac l n hl;refine AC.E func168 ntmps168 ?_;intros
 repeat' (first|((first|refine wA1 ?_|(refine GA ?_ ?_<;>intro hg)|(refine GV ?_;intros;simp only [nz])|refine wA6 ?_)<;>try refine NQ ?_)|refine wT3 ?_|with_reducible intro Q' hQ'|(refine GC ?_ ?_<;>intro hc)|simp only [laq])
 exact RA0
abbrev iBx (l:List Int):Bx:=.c 40 [.sl none 1 (l.map eI)]
theorem rany1_ac_c (r:List Int) (hr:r.length<=1000000) (g:Gr):AC prog 167 [.ag (eGr g),.bp 0 0 0] [iBx r] (fun v bs'=>v=B (hasI r g.ser)/\bs'=[iBx r]):=by
 have h1:=rhas_ac r g.ser hr;refine AC.E func167 ntmps167 ?_;intros;refine CP.SL ?_
 repeat' (first|((first|refine wA1 ?_|(refine GA ?_ ?_<;>intro hg)|(refine GV ?_;intros;simp only [nz])|refine wA6 ?_)<;>try refine NQ ?_)|refine wT3 ?_|with_reducible intro Q' hQ'|(refine GC ?_ ?_<;>intro hc)|simp only [laq])
 exact RA1
theorem rany1_ac (l:List Gr) (hl:l.length<=1000000)(rv:List Int) (hrv:rv.length<=1000000):AC prog 193 [.sl none 3 (l.map eGr),.fn 167 [.bp 0 0 0]] [iBx rv] (fun v bs'=>v=I (idxF (fun g=>hasI rv g.ser) l)/\bs'=[iBx rv]):=by
 refine AC.E func193 ntmps193 ?_;intros
 repeat' (first|((first|refine wA1 ?_|(refine GA ?_ ?_<;>intro hg)|(refine GV ?_;intros;simp only [nz])|refine wA6 ?_)<;>try refine NQ ?_)|refine wT3 ?_|with_reducible intro Q' hQ'|(refine GC ?_ ?_<;>intro hc)|simp only [laq])
 refine cp_loopS [4,5,8,9,10,11,12,13,14,15,16,17,18] (fun a:Nat=>l.length - a) (fun a=>a<=l.length/\∀ i x,i < a->l[i]? = some x->(fun g=>hasI rv g.ser) x=false) (fun a=>[(8,I a)]) (fun _=>[]) 0 ⟨Nat.zero_le _,fun i x h=>absurd h (by omega)⟩ (by exact Gh.W) ?_;rintro a ⟨ha,hinv⟩;refine ST0 ?_
 by_cases hlt:a < l.length
 ·have q1:decide ((a:Int) < (l.length:Int))=true:=by simp;omega
  have q2:IntKind.i64.wrap ((a:Int) + 1)=((a + 1:Nat):Int):=wrap_i64 (by omega) (by omega);have hr:(l.map eGr)[a]? = some (eGr l[a]):=by rw [List.getElem?_map,List.getElem?_eq_getElem hlt];rfl
  have h1:=rany1_ac_c rv hrv l[a]
  cases hp:(fun g=>hasI rv g.ser) l[a] with
  | true=>
   rw [show idxF (fun g=>hasI rv g.ser) l=(a:Int) from idxF_at hlt hp hinv]
   (try dsimp only at hp);rw [hp] at h1
   generalize l[a]=x at *
   repeat' (first|((first|refine wA1 ?_|(refine GA ?_ ?_<;>intro hg)|(refine GV ?_;intros;simp only [nz])|refine wA6 ?_)<;>try refine wN1 ?_)|refine wT3 ?_|with_reducible intro Q' hQ'|(refine GC ?_ ?_<;>intro hc)|simp only [laq])
   exact RA1
  | false=>
   have hinv2:∀ i x,i < a + 1->l[i]? = some x->(fun g=>hasI rv g.ser) x=false:=fun i x hi hx=>by
    by_cases hia:i=a
    ·subst hia;rw [List.getElem?_eq_getElem hlt] at hx;injection hx with hx;rw [←hx];exact hp
    ·exact hinv i x (by omega) hx
   (try dsimp only at hp);rw [hp] at h1
   generalize l[a]=x at *
   repeat' (first|((first|refine wA1 ?_|(refine GA ?_ ?_<;>intro hg)|(refine GV ?_;intros;simp only [nz])|refine wA6 ?_)<;>try refine wN1 ?_)|refine wT3 ?_|with_reducible intro Q' hQ'|(refine GC ?_ ?_<;>intro hc)|simp only [laq])
   exact ⟨a + 1,by omega,⟨by omega,hinv2⟩,by exact Gh.W⟩
 ·obtain rfl:a=l.length:=by omega
  have q1:decide ((l.length:Int) < (l.length:Int))=false:=by simp
  rw [show idxF (fun g=>hasI rv g.ser) l = -1 from idxF_no fun x hx=>by obtain ⟨i,hi⟩:=List.mem_iff_getElem?.1 hx;exact hinv i x (List.getElem?_eq_some_iff.1 hi).1 hi]
  repeat' (first|((first|refine wA1 ?_|(refine GA ?_ ?_<;>intro hg)|(refine GV ?_;intros;simp only [nz])|refine wA6 ?_)<;>try refine wN0 ?_)|refine wT3 ?_|with_reducible intro Q' hQ'|(refine GC ?_ ?_<;>intro hc)|simp only [laq])
  exact RA1
theorem rcontf_ac (l:List Gr) (rv:List Int) (hl:l.length<=1000000) (hrv:rv.length<=1000000):AC prog 166 [grA l,.fn 167 [.bp 0 0 0]] [iBx rv] (fun v bs'=>v=B (l.any fun g=>hasI rv g.ser)/\bs'=[iBx rv]):=by
 have h1:=rany1_ac l hl rv hrv;have q1:=idxF_any (fun g:Gr=>hasI rv g.ser) l;refine AC.E func166 ntmps166 ?_;intros
 repeat' (first|((first|refine wA1 ?_|(refine GA ?_ ?_<;>intro hg)|(refine GV ?_;intros;simp only [nz])|refine wA6 ?_)<;>try refine wN0 ?_)|refine wT3 ?_|with_reducible intro Q' hQ'|(refine GC ?_ ?_<;>intro hc)|simp only [laq])
 exact RA1
theorem rany_ac (rv:List Int) (l:List Gr) (hl:l.length<=1000000) (hrv:rv.length<=1000000):AF 109 [.sl none 1 (rv.map eI),grA l] (B (l.any fun g=>hasI rv g.ser)):=by
 have h1:=rcontf_ac l rv hl hrv;refine AC.E func109 ntmps109 ?_;intros;refine CP.SL ?_
 repeat' (first|((first|refine wA1 ?_|(refine GA ?_ ?_<;>intro hg)|(refine GV ?_;intros;simp only [nz])|refine wA6 ?_)<;>try refine NQ ?_)|refine wT3 ?_|with_reducible intro Q' hQ'|(refine GC ?_ ?_<;>intro hc)|simp only [laq])
 exact RA0
theorem spl_all {α:Type}:∀ (r l:List α) (o:Nat),o + r.length=l.length->spl l o r=l.take o ++ r
 | [],l,o,h=>by simp at h;subst h;simp [spl]
 | a :: r,l,o,h=>by
  have h1:o < l.length:=by simp at h;omega
  rw [spl,spl_all r (l.set o a) (o + 1) (by simp at h ⊢;omega),List.take_set,List.take_add_one,List.getElem?_eq_getElem h1];have h2:(l.take o).length=o:=by simp;omega
  rw [List.set_append_right _ _ (by omega)];simp [h2]
section
variable {X:Cx} {s:AS} {ops:Array Oper} {rest:List Oper} {Q:Exit->AS->Prop} {d:Option Nat} {ty:Nat} {pos:String} {aft:Array Edge} {T e k:Nat} {i ie:TI} {x:Operand}
theorem bld1 {z:List ZC} (hz:z.length=k) (h:(aev s x).cells.length=k):bldA s k [(0,x)] (zrow z 1)=(aev s x).cells:=by
 simp only [bldA,Nat.zero_mul];rw [spl_all _ _ _ (by simp [zrow,hz,h])];simp
theorem chunk1 {k:Nat} {l:List AV} (h:l.length=k):chunks k 1 l=[l]:=by
 simp only [chunks];rw [List.take_of_length_le (by omega)]
theorem AP.B1 {z:List ZC} {fl fl':List AV} {b':List Sl} {av:AV} (KK:AP prog X ops Q rest (AS.put ⟨s.t,(newS b' (.r e k [fl'])).2⟩ d (.hd (newS b' (.r e k [fl'])).1.1 (newS b' (.r e k [fl'])).1.2))) (hT:tt[T]? = some i:=by exact rfl) (hk:i.kd=.sl e:=by exact rfl) (he:tt[e]? = some ie:=by exact rfl) (hz:ie.zero=some z:=by exact rfl) (hsz:ie.size=k:=by exact rfl)
 (hzl:z.length=k:=by exact rfl) (h1:Nat.ble 1 k=true:=by exact rfl) (h2:Nat.ble (1 * k) 1000000=true:=by exact rfl) (hx:aev s x=av:=by exact rfl) (hkn:av.known=true:=by exact rfl) (hfl:av.cells=fl:=by exact rfl) (hl:fl.length=k:=by exact rfl) (hcl:ClsC s.b fl fl' b':=by ((repeat' (first|exact ClsC.nil|apply ClsC.nl|apply ClsC.leaf rfl|apply ClsC.hd rfl|apply ClsC.ob rfl|apply ClsC.mo rfl|apply ClsC.mp rfl|apply ClsC.hp rfl|exact Out.nil|apply Out.cons rfl|apply Out.r rfl|apply Out.f rfl|apply ClsC.fn|apply ClsC.fz rfl (ro_B _)|apply ClsC.fz rfl (ro_M _)|apply ClsC.fz rfl (ro_E _ _)|apply ClsC.fz rfl rfl));all_goals fail)) (hl':fl'.length=k:=by exact rfl):AP prog X ops Q (⟨d,.buildSlice T 1 #[(0,x)],ty,pos,aft,none⟩ :: rest) s:=by
 subst hx hfl;exact ap_buildSlice rfl rfl hT hk he hz hsz h1 h2 (by simp [hkn,hl]) (bld1 hzl hl) hcl (chunk1 hl') KK
end
theorem ap_appendB {X:Cx} {s:AS} {ops:Array Oper} {rest:List Oper} {o:Oper} {Q:Exit->AS->Prop} {T e b u b2 u2 off n c T2:Nat} {x y:Operand} {s1:List (List AV)} {l:List AV} {i ie:TI} (hg:o.guard=none) (ho:o.op=.call { callee:=.builtin .append,args:=#[x,y],argTypes:=#[T,T] }) (hx:aev s x=.hd b u) (hs:s.b[b]? = some ⟨u,.r e 1 s1⟩)
 (hT:tt[T]? = some i) (hk:i.kd=.sl e) (he:tt[e]? = some ie) (hz:ie.zero.isSome=true) (hsz:ie.size=1) (hby:Nat.ble ie.bytes 100000=true)
 (hy:aev s y=.sb b2 u2 1 off n c) (hs2:s.b[b2]? = some ⟨u2,.c T2 l⟩) (hfit:off + n<=l.length) (hlf:((l.drop off).take n).all AV.leaf=true) (hlen:s1.length + n<=1000000000)
 (K:AP prog X ops Q rest (AS.put ⟨s.t,s.b.set b ⟨u + 1,.r e 1 (s1 ++ ((l.drop off).take n).map fun a=>[a])⟩⟩ o.dst (.hd b (u + 1)))):AP prog X ops Q (o :: rest) s:=
 .run hg (fun X φ κ f a w h=>by
  have hby:=Nat.le_of_ble_eq_true hby;have hv:=h.hdv hx hs;have hbl:b < s.b.length:=(List.getElem?_eq_some_iff.1 hs).1;have hsb:=h.evs hy;have hS2:=h.sl b2 _ hs2;generalize hp2:a.eval y=py at hsb;have hlm:(((l.drop off).take n).map fun a=>[a]).length=n:=by rw [List.length_map,List.length_take,List.length_drop];omega
  have hsrc:∃ us2,RE w φ κ X.R 1 (((l.drop off).take n).map fun a=>[a]) us2 Ct.z/\((py=.slice none 0 0/\us2=[])\/∃ A c,py=.slice (some A) (((l.drop off).take n).map fun a=>[a]).length c/\∀ j u,us2[j]? = some u->w.cell? (A.add j)=some u):=by
   cases hsb with
   | @sb _ _ _ _ _ _ g hφ hnc hcm=>
    generalize f b2=F at hS2
    cases hS2 with
    | @c _ _ vs g' _ hφ' hh hc ho1 _=>
     rw [hφ] at hφ';injection hφ' with e0;subst e0
     refine ⟨(vs.drop off).take n,RC.ones (hc.drop_ off n) (fun v hv=>ho1 v (List.mem_of_mem_drop (List.mem_of_mem_take hv))) (fun x hx=>List.all_eq_true.1 hlf x hx),.inr ⟨_,c,by rw [hlm],fun j v hj=>?_⟩⟩;rw [List.getElem?_take] at hj;split at hj
     ·rw [List.getElem?_drop] at hj;rw [addr_mid,cell_of_row w g (off + j) vs.toArray T2 (0,0) hh];simpa using hj
     ·cases hj
  obtain ⟨us2,hre2,hsv⟩:=hsrc;have hsum:=fun x=>sumF_le f x s.b.length b hbl
  obtain ⟨v',w',S',hrun,hrv,hblk,hsz',hos,htp,hou,hS1,hS2'⟩:=run_append_rv (R:=X.R) hT hk he hz hsz (by omega) hv hre2 hsv (fun x hx=>by
   have a1:=h.not_rd hx;have a2:=hsum x;exact ⟨h.blk (.inl hx),by omega,rfl⟩) (fun x=>by
   have a1:=h.one x;have a2:=hsum x;simp only [Ct.z] at a1 ⊢;omega) (fun x hx=>by
   have a1:=h.own x;have a2:=hsum x;simp only [Ct.z] at a1 hx;exact (a1 (by omega)).1) (by rw [hlm];exact hlen) hby o.type
  have hrun':(execOp a.eval o).run prog w=.ok (.value v') w':=by
   simp only [execOp,ho,resolve,invoke,builtin,Sem.run_bind,Sem.run_pure,Result.andThen_ok,List.map_toArray,List.map_cons,List.map_nil,hp2,hrun]
  have hnone:=h.new b (u + 1) (fun e he=>by rw [hs] at he;injection he with he;subst he;simp)
  have hκ:∀ b' v g,κ b' v=some g->(κ.on b (u + 1) (some v')) b' v=some g:=fun b' v g hg=>by
   unfold Ka.on
   by_cases hc:b'=b/\v=u + 1
   ·rw [hc.1,hc.2,hnone.2] at hg;cases hg
   ·rw [if_neg hc];exact hg
  have e2:(κ.on b (u + 1) (some v')) b (u + 1)=some v':=by simp [Ka.on]
  have ht:=h.turn (w':=w') (φ':=φ) (κ':=κ.on b (u + 1) (some v')) (u:=u + 1) (B:=.r e 1 (s1 ++ ((l.drop off).take n).map fun a=>[a])) (g:=S') (L':=Ct.z) hs (fun _ _ _ h=>h) hκ hsz' hos htp hou (fun x hx h0=>hblk x hx (by simp only [Ct.z] at h0 ⊢;omega)) (.r e2 (hrv _ _))
   (fun x hx=>by have:=hS1 x hx;simp only [Ct.z] at this ⊢;omega) (fun x hx=>by have:=hS2' x hx;simp only [Ct.z];exact ⟨by omega,fun h0=>this.2 (by omega)⟩) (by simp) (fun _ _ _ h=>h) (fun i v hv hn=>by
     unfold Ka.on;rw [if_neg (by omega)];exact hn)
  have hv1:v'.oneCell'=true:=by obtain ⟨A,c,rfl,_⟩:=(hrv φ κ).sl_form;rfl
  exact ⟨v',w',φ,_,_,hrun',ht.puts o.dst (.hd e2 hv1)⟩) K
theorem AP.AW {X:Cx} {s:AS} {ops:Array Oper} {rest:List Oper} {Q:Exit->AS->Prop} {T e b u b2 u2 off n c T2:Nat} {x y:Operand} {s1:List (List AV)} {l:List AV} {i ie:TI} {d:Option Nat} {ty:Nat} {pos:String} {aft:Array Edge} (K:AP prog X ops Q rest (AS.put ⟨s.t,s.b.set b ⟨u + 1,.r e 1 (s1 ++ ((l.drop off).take n).map fun a=>[a])⟩⟩ d (.hd b (u + 1)))) (hx:aev s x=.hd b u:=by exact rfl) (hs:s.b[b]? = some ⟨u,.r e 1 s1⟩:=by exact rfl)
 (hT:tt[T]? = some i:=by exact rfl) (hk:i.kd=.sl e:=by exact rfl) (he:tt[e]? = some ie:=by exact rfl) (hz:ie.zero.isSome=true:=by exact rfl) (hsz:ie.size=1:=by exact rfl) (hby:Nat.ble ie.bytes 100000=true:=by exact rfl)
 (hy:aev s y=.sb b2 u2 1 off n c:=by exact rfl) (hs2:s.b[b2]? = some ⟨u2,.c T2 l⟩:=by exact rfl) (hfit:Nat.ble (off + n) l.length=true:=by exact rfl) (hlf:((l.drop off).take n).all AV.leaf=true:=by exact rfl) (hlen:s1.length + n<=1000000000:=by (first|assumption|omega|(simp only [List.length_map,List.length_append];omega))):AP prog X ops Q (⟨d,.call { callee:=.builtin .append,args:=#[x,y],argTypes:=#[T,T] },ty,pos,aft,none⟩ :: rest) s:=
 ap_appendB rfl rfl hx hs hT hk he hz hsz hby hy hs2 (Nat.le_of_ble_eq_true hfit) hlf hlen K
abbrev Q4 (x:UInt32):AV:=.sc (.int .u32 (x.toNat:Int))
def shlI (x:UInt32) (j:Int):UInt32:=UInt32.ofBitVec (x.toBitVec <<< (min j.toNat 32))
def shrI (x:UInt32) (j:Int):UInt32:=UInt32.ofBitVec (x.toBitVec >>> (min j.toNat 32))
def rotr (x:UInt32) (n:Nat):UInt32:=shrI x n ||| shlI x (32 - n:Int)
theorem u32_lt (x:UInt32):x.toNat < 4294967296:=x.toNat_lt
theorem wrap_u32 {x:Int} (h:0<=x) (h':x < 4294967296):IntKind.u32.wrap x=x:=by
 simp only [IntKind.wrap,IntKind.bits,IntKind.signed,Bool.false_and,Bool.false_eq_true,if_false];omega
theorem wrap_u64 {x:Int} (h:0<=x) (h':x < 18446744073709551616):IntKind.u64.wrap x=x:=by
 simp only [IntKind.wrap,IntKind.bits,IntKind.signed,Bool.false_and,Bool.false_eq_true,if_false];omega
theorem w32_nat (n:Nat):IntKind.u32.wrap (n:Int)=((n % 4294967296:Nat):Int):=by
 simp only [IntKind.wrap,IntKind.bits,IntKind.signed,Bool.false_and,Bool.false_eq_true,if_false];omega
theorem w32_add (x y:UInt32):IntKind.u32.wrap ((x.toNat:Int) + (y.toNat:Int))=((x + y).toNat:Int):=by
 rw [UInt32.toNat_add,←Int.natCast_add,w32_nat]
theorem bv32 (x:UInt32):BitVec.ofInt IntKind.u32.bits (x.toNat:Int)=x.toBitVec:=by
 apply BitVec.eq_of_toNat_eq;have:=u32_lt x
 show (BitVec.ofInt 32 (x.toNat:Int)).toNat=x.toNat
 rw [BitVec.toNat_ofInt];omega
theorem w32_bv (b:BitVec 32):IntKind.u32.wrap ((b.toNat:Nat):Int)=((UInt32.ofBitVec b).toNat:Int):=by
 have:=b.isLt;rw [wrap_u32 (by omega) (by omega)];rfl
theorem w32_and (x y:UInt32):IntKind.u32.wrap (((BitVec.ofInt IntKind.u32.bits (x.toNat:Int)) &&& (BitVec.ofInt IntKind.u32.bits (y.toNat:Int))).toNat:Int)=((x &&& y).toNat:Int):=by
 rw [bv32,bv32];exact w32_bv _
theorem w32_or (x y:UInt32):IntKind.u32.wrap (((BitVec.ofInt IntKind.u32.bits (x.toNat:Int)) ||| (BitVec.ofInt IntKind.u32.bits (y.toNat:Int))).toNat:Int)=((x ||| y).toNat:Int):=by
 rw [bv32,bv32];exact w32_bv _
theorem w32_xor (x y:UInt32):IntKind.u32.wrap (((BitVec.ofInt IntKind.u32.bits (x.toNat:Int)) ^^^ (BitVec.ofInt IntKind.u32.bits (y.toNat:Int))).toNat:Int)=((x ^^^ y).toNat:Int):=by
 rw [bv32,bv32];exact w32_bv _
theorem w32_not (x:UInt32):IntKind.u32.wrap (((BitVec.ofInt IntKind.u32.bits (if IntKind.u32.signed=true then -1 else IntKind.u32.max)) ^^^ (BitVec.ofInt IntKind.u32.bits (x.toNat:Int))).toNat:Int)=((~~~x).toNat:Int):=by
 have e:(if IntKind.u32.signed=true then (-1:Int) else IntKind.u32.max)=4294967295:=by decide
 have e2:BitVec.ofInt IntKind.u32.bits 4294967295 ^^^ BitVec.ofInt IntKind.u32.bits (x.toNat:Int)=(~~~x).toBitVec:=by
  rw [bv32]
  show BitVec.ofInt 32 4294967295 ^^^ x.toBitVec = ~~~x.toBitVec
  rw [show BitVec.ofInt 32 4294967295=BitVec.allOnes 32 from by decide,BitVec.allOnes_xor]
 rw [e,e2];exact w32_bv _
theorem w32_shr (x:UInt32) (j:Int):Int.fdiv (x.toNat:Int) (2 ^ (min j.toNat IntKind.u32.bits))=((shrI x j).toNat:Int):=by
 show Int.fdiv (x.toNat:Int) (2 ^ (min j.toNat 32))=((x.toBitVec >>> (min j.toNat 32)).toNat:Int)
 generalize min j.toNat 32=m;have:((2:Int) ^ m)=((2 ^ m:Nat):Int):=by simp
 rw [this,BitVec.toNat_ushiftRight,Nat.shiftRight_eq_div_pow,Int.fdiv_eq_ediv_of_nonneg _ (Int.natCast_nonneg _)];exact (Int.natCast_ediv _ _).symm
theorem w32_shl (x:UInt32) (j:Int):IntKind.u32.wrap ((x.toNat:Int) * 2 ^ (min j.toNat IntKind.u32.bits))=((shlI x j).toNat:Int):=by
 show IntKind.u32.wrap ((x.toNat:Int) * 2 ^ (min j.toNat 32))=((x.toBitVec <<< (min j.toNat 32)).toNat:Int)
 generalize min j.toNat 32=m;have:((2:Int) ^ m)=((2 ^ m:Nat):Int):=by simp
 rw [this,←Int.natCast_mul,w32_nat,BitVec.toNat_shiftLeft,Nat.shiftLeft_eq];rfl
theorem w64_of32 (x:UInt32):IntKind.u64.wrap (x.toNat:Int)=(x.toNat:Int):=wrap_u64 (by omega) (by have:=u32_lt x;omega)
theorem q4:type_of% (And.intro w32_add (And.intro w32_and (And.intro w32_or (And.intro w32_xor (And.intro w32_not (And.intro w32_shr (And.intro w32_shl w64_of32))))))):=And.intro w32_add (And.intro w32_and (And.intro w32_or (And.intro w32_xor (And.intro w32_not (And.intro w32_shr (And.intro w32_shl w64_of32))))))
def rlJ (k:Int):Int:=IntKind.u64.wrap ((BitVec.ofInt IntKind.u64.bits (IntKind.u64.wrap k) &&& BitVec.ofInt IntKind.u64.bits 31).toNat:Int)
def rlX (x:UInt32) (k:Int):UInt32:=shlI x (rlJ k) ||| shrI x (IntKind.u64.wrap (32 - rlJ k))
theorem wu64_nn (x:Int):0<=IntKind.u64.wrap x:=by
 simp only [IntKind.wrap,IntKind.bits,IntKind.signed,Bool.false_and,Bool.false_eq_true,if_false];omega
theorem rlJ_nn (k:Int):0<=rlJ k:=wu64_nn _
theorem rl_rot {x:UInt32} {n:Nat} (h1:1<=n) (h2:n<=31):rlX x (IntKind.i64.wrap (0 - Int.tmod (n:Int) 32))=rotr x n:=by
 have key:∀ m:_root_.Fin 32,m.val≠0->rlJ (IntKind.i64.wrap (0 - Int.tmod ((m.val:Nat):Int) 32))=32 - (m.val:Int)/\IntKind.u64.wrap (32 - rlJ (IntKind.i64.wrap (0 - Int.tmod ((m.val:Nat):Int) 32)))=(m.val:Int):=by decide +kernel
 have:=key ⟨n,by omega⟩ (by show n≠0;omega);unfold rlX rotr;rw [this.2,this.1,UInt32.or_comm]
theorem wA8 {G G':Prop} (K:G') (h:G'->G:=by (intro kz;(with_reducible apply AP.k_any);first|exact AP.S kz|exact AP.A kz|exact AP.AB 0 kz|exact AP.AB 1 kz|exact AP.AL kz|exact AP.LB kz|exact AP.TB kz|exact AP.IX kz|exact AP.SF kz|exact AP.SV kz|exact AP.CV kz|exact AP.CO kz|exact AP.FV kz)):G:=h K
theorem rl_ac (x:UInt32) (k:Int):AF 247 [Q4 x,I k] (Q4 (rlX x k)):=by
 have h0:=rlJ_nn k;have h1:=wu64_nn (32 - rlJ k);unfold rlJ at h0 h1;refine AC.E func247 ntmps247 ?_;intros
 repeat' (first|((first|refine wA8 ?_|refine wA6 ?_)<;>(try simp only [nx,q4,rn,fq,Nat.mul_one,Bool.and_true,Bool.and_false,Nat.reduceBEq,Nat.reduceAdd,Nat.reduceSub,BEq.rfl]))|refine wT2 ?_|with_reducible intro Q' hQ'|(refine GC ?_ ?_<;>intro hc)|simp only [laq])
 exact RA0
theorem rotr_ac (x:UInt32) (n:Nat) (h1:1<=n) (h2:n<=31):AF 240 [Q4 x,I n] (Q4 (rotr x n)):=by
 have h:=rl_ac x (IntKind.i64.wrap (0 - Int.tmod (n:Int) 32));rw [rl_rot h1 h2] at h;refine AC.E func240 ntmps240 ?_;intros
 repeat' (first|((first|refine wA8 ?_|refine wA6 ?_)<;>(try simp only [nx,q4,rn,fq,Nat.mul_one,Bool.and_true,Bool.and_false,Nat.reduceBEq,Nat.reduceAdd,Nat.reduceSub,BEq.rfl]))|refine wT2 ?_|with_reducible intro Q' hQ'|(refine GC ?_ ?_<;>intro hc)|simp only [laq])
 exact RA0
theorem shr_ac (x:UInt32) (n:Nat) (hn:0 < n):AF 241 [Q4 x,I n] (Q4 (shrI x n)):=by
 have hd:(if (n:Int) < 0 then (0:Int) else (n:Int))=n:=if_neg (by omega);refine AC.E func241 ntmps241 ?_;intros
 repeat' (first|((first|refine wA8 ?_|refine wA6 ?_)<;>(try simp only [nx,q4,rn,fq,Nat.mul_one,Bool.and_true,Bool.and_false,Nat.reduceBEq,Nat.reduceAdd,Nat.reduceSub,BEq.rfl]))|refine wT2 ?_|with_reducible intro Q' hQ'|(refine GC ?_ ?_<;>intro hc)|simp only [laq])
 simp only [hd];exact RA0
def tnS (x:UInt32) (a b c:Nat):UInt32:=rotr x a ^^^ rotr x b ^^^ rotr x c
def smS (x:UInt32) (a b c:Nat):UInt32:=rotr x a ^^^ rotr x b ^^^ shrI x c
theorem turned_ac (x:UInt32) (a b c:Nat) (ha:1<=a/\a<=31) (hb:1<=b/\b<=31) (hc:1<=c/\c<=31):AF 228 [Q4 x,I a,I b,I c] (Q4 (tnS x a b c)):=by
 have h1:=rotr_ac x a ha.1 ha.2;have h2:=rotr_ac x b hb.1 hb.2;have h3:=rotr_ac x c hc.1 hc.2;refine AC.E func228 ntmps228 ?_;intros
 repeat' (first|((first|refine wA8 ?_|refine aC1 h1 ?_|refine aC1 h2 ?_|refine aC1 h3 ?_|refine wA6 ?_)<;>(try simp only [nx,q4,rn,fq,Nat.mul_one,Bool.and_true,Bool.and_false,Nat.reduceBEq,Nat.reduceAdd,Nat.reduceSub,BEq.rfl]))|refine wT2 ?_|with_reducible intro Q' hQ'|(refine GC ?_ ?_<;>intro hc)|simp only [laq])
 exact RA0
theorem small_ac (x:UInt32) (a b c:Nat) (ha:1<=a/\a<=31) (hb:1<=b/\b<=31) (hc:1<=c/\c<=31):AF 226 [Q4 x,I a,I b,I c] (Q4 (smS x a b c)):=by
 have h1:=rotr_ac x a ha.1 ha.2;have h2:=rotr_ac x b hb.1 hb.2;have h3:=shr_ac x c (by omega);refine AC.E func226 ntmps226 ?_;intros
 repeat' (first|((first|refine wA8 ?_|refine aC1 h1 ?_|refine aC1 h2 ?_|refine aC1 h3 ?_|refine wA6 ?_)<;>(try simp only [nx,q4,rn,fq,Nat.mul_one,Bool.and_true,Bool.and_false,Nat.reduceBEq,Nat.reduceAdd,Nat.reduceSub,BEq.rfl]))|refine wT2 ?_|with_reducible intro Q' hQ'|(refine GC ?_ ?_<;>intro hc)|simp only [laq])
 exact RA0
def K32:List UInt32:=[0x428a2f98,0x71374491,0xb5c0fbcf,0xe9b5dba5,0x3956c25b,0x59f111f1,0x923f82a4,0xab1c5ed5,0xd807aa98,0x12835b01,0x243185be,0x550c7dc3,0x72be5d74,0x80deb1fe,0x9bdc06a7,0xc19bf174,0xe49b69c1,0xefbe4786,0x0fc19dc6,0x240ca1cc,0x2de92c6f,0x4a7484aa,0x5cb0a9dc,0x76f988da,0x983e5152,0xa831c66d,0xb00327c8,0xbf597fc7,0xc6e00bf3,0xd5a79147,0x06ca6351,0x14292967,0x27b70a85,0x2e1b2138,0x4d2c6dfc,0x53380d13,0x650a7354,0x766a0abb,0x81c2c92e,0x92722c85,0xa2bfe8a1,0xa81a664b,0xc24b8b70,0xc76c51a3,0xd192e819,0xd6990624,0xf40e3585,0x106aa070,0x19a4c116,0x1e376c08,0x2748774c,0x34b0bcb5,0x391c0cb3,0x4ed8aa4a,0x5b9cca4f,0x682e6ff3,0x748f82ee,0x78a5636f,0x84c87814,0x8cc70208,0x90befffa,0xa4506ceb,0xbef9a3f7,0xc67178f2]
def be4 (b:List UInt8) (p:Int):UInt32:=UInt32.ofNat (loadS b p 4).1
theorem w32_of (n:Nat):IntKind.u32.wrap (n:Int)=((UInt32.ofNat n).toNat:Int):=by rw [w32_nat];rfl
theorem load32_ac (b:List UInt8) (p:Int) (hb:b.length<=100000000) (hp:p<=200000000) (hp2:-1000000<=p):AF 79 [bs none b,I p] (.tu [Q4 (be4 b p),B (loadS b p 4).2]):=by
 have h:=load_ac b p 4 (by omega) hb hp hp2;unfold be4;generalize loadS b p 4=r at h ⊢;refine AC.E func79 ntmps79 ?_;intros
 repeat' (first|((first|refine wA8 ?_|refine wA6 ?_)<;>(try simp only [w32_of,nx,q4,rn,fq,Nat.mul_one,Bool.and_true,Bool.and_false,Nat.reduceBEq,Nat.reduceAdd,Nat.reduceSub,BEq.rfl]))|refine wT2 ?_|with_reducible intro Q' hQ'|(refine GC ?_ ?_<;>intro hc)|simp only [laq])
 exact RA0
theorem constants_ac:AF 227 [] (.ag (K32.map Q4)):=by
 refine AC.E func227 ntmps227 ?_;intros
 repeat' (first|((first|refine wA8 ?_|refine wA6 ?_)<;>(try simp only [nx,q4,rn,fq,Nat.mul_one,Bool.and_true,Bool.and_false,Nat.reduceBEq,Nat.reduceAdd,Nat.reduceSub,BEq.rfl]))|refine wT2 ?_|with_reducible intro Q' hQ'|(refine GC ?_ ?_<;>intro hc)|simp only [laq])
 exact RA0
structure S8 where
 (a b c d e f g h:UInt32)
abbrev e8 (s:S8):List AV:=[Q4 s.a,Q4 s.b,Q4 s.c,Q4 s.d,Q4 s.e,Q4 s.f,Q4 s.g,Q4 s.h]
def s8z:S8:=⟨0x6a09e667,0xbb67ae85,0x3c6ef372,0xa54ff53a,0x510e527f,0x9b05688c,0x1f83d9ab,0x5be0cd19⟩
theorem first_ac:AF 211 [] (.ag (e8 s8z)):=by
 refine AC.E func211 ntmps211 ?_;intros
 repeat' (first|((first|refine wA8 ?_|refine wA6 ?_)<;>(try simp only [nx,q4,rn,fq,Nat.mul_one,Bool.and_true,Bool.and_false,Nat.reduceBEq,Nat.reduceAdd,Nat.reduceSub,BEq.rfl]))|refine wT2 ?_|with_reducible intro Q' hQ'|(refine GC ?_ ?_<;>intro hc)|simp only [laq])
 exact RA0
def wX (b:List UInt8) (l:List UInt32) (n:Nat):UInt32:=if n < 16 then be4 b (4 * n) else smS (l.getD (n - 2) 0) 17 19 10 + l.getD (n - 7) 0 + smS (l.getD (n - 15) 0) 7 18 3 + l.getD (n - 16) 0
def wS (b:List UInt8):Nat->List UInt32
 | 0=>[]
 | n + 1=>wS b n ++ [wX b (wS b n) n]
theorem wS_len (b:List UInt8):∀ n,(wS b n).length=n
 | 0=>rfl
 | n + 1=>by simp [wS,wS_len b n]
def scB (b:List UInt8) (n:Nat):List AV:=(wS b n ++ List.replicate (64 - n) 0).map Q4
theorem scB_len (b:List UInt8) (n:Nat) (h:n<=64):(scB b n).length=64:=by simp [scB,wS_len];omega
theorem scB_at (b:List UInt8) {n i:Nat} (h:i < n):(scB b n)[i]? = some (Q4 ((wS b n).getD i 0)):=by
 have:=wS_len b n;unfold scB;rw [List.getElem?_map,List.getElem?_append_left (by omega),List.getD_eq_getElem?_getD,List.getElem?_eq_getElem (by omega)];rfl
theorem scB_set (b:List UInt8) {n:Nat} (h:n < 64):(scB b n).set n (Q4 (wX b (wS b n) n))=scB b (n + 1):=by
 unfold scB;rw [←List.map_set]
 congr 1
 have hl:=wS_len b n;rw [List.set_append_right _ _ (by omega),hl,Nat.sub_self,show 64 - n=(64 - (n + 1)) + 1 by omega,List.replicate_succ,List.set_cons_zero];simp [wS]
def rnd (s:S8) (k w:UInt32):S8:=
 let one:=s.h + tnS s.e 6 11 25 + (s.e &&& s.f ||| ~~~s.e &&& s.g) + k + w
 let two:=tnS s.a 2 13 22 + (s.a &&& s.b ||| s.a &&& s.c ||| s.b &&& s.c)
 ⟨one + two,s.a,s.b,s.c,s.d + one,s.e,s.f,s.g⟩
def rS (n:S8) (b:List UInt8):Nat->S8
 | 0=>n
 | t + 1=>rnd (rS n b t) (K32.getD t 0) ((wS b 64).getD t 0)
def blockS (n:S8) (b:List UInt8):S8:=
 let x:=rS n b 64
 ⟨n.a + x.a,n.b + x.b,n.c + x.c,n.d + x.d,n.e + x.e,n.f + x.f,n.g + x.g,n.h + x.h⟩
theorem oc_Q4:∀ (l:List UInt32) (t:List Sl),opnC (l.map Q4) t=(l.map Q4,t)
 | [],_=>rfl
 | x :: l,t=>by rw [List.map_cons,oc_sc,oc_Q4 l]
theorem K32_at {i:Nat} (h:i < 64):(K32.map Q4)[i]? = some (Q4 (K32.getD i 0)):=by
 have:K32.length=64:=rfl;simp [List.getD_eq_getElem?_getD,List.getElem?_eq_getElem (show i < K32.length by omega)]
def Jcl (J:Jt):Prop:=∀ (w w':World) (L L':Ct) (R R':Nat->Prop),J w L R->Fr w w' L->(∀ x,L' x<=1)->(∀ x,L' x≠0->x < w'.heap.size/\(L x≠0\/w.heap.size<=x))->(∀ x,R x->R' x) ->
 (∀ x,R' x->x < w'.heap.size/\L' x=0/\(R x\/L x≠0\/w.heap.size<=x))->J w' L' R'
abbrev noφ:Fi:=fun _ _=>none
abbrev noκ:Ka:=fun _ _=>none
def Yok (P:Program) (l:Nat) (J:Jt) (y:List AV) (J' Jx:Jt):Prop:=∀ (w:World) (L:Ct) (R:Nat->Prop) (vs:List Value),J w L R->RC w noφ noκ R y vs Ct.z ->
 YieldAt Fence.wide 0 P l vs.toArray w fun e w'=>∃ b:Bool,e=.returned (.bool b)/\(match b with|true=>J'|false=>Jx) w' L R/\w.heap.size<=w'.heap.size/\∀ x,x < w.heap.size->L x≠0\/R x->w'.heap[x]? = w.heap[x]?
def IC (P:Program) (g:Nat) (cap:List AV) (bs:List Bx) (ys:List (List AV)):Prop:=
 (∀ (xs:Array Value) (w:World),(callFunc g xs).run P w=.ok (.enter g xs) w) /\
 ∀ (l:Nat) (J:Nat->Jt) (Jx:Jt),(∀ i,Jcl (J i))->Jcl Jx->(∀ (i:Nat) (y:List AV),ys[i]? = some y->Yok P l (J i) y (J (i + 1)) Jx) ->
 ∀ (w:World) (φ:Fi) (κ:Ka) (R:Nat->Prop) (vs:List Value) (gs:List Nat) (Sa Sb:Ct),
  RC w φ κ R cap vs Sa->RXs w R bs gs Sb->(∀ (i g:Nat) (B:Bx),gs[i]? = some g->bs[i]? = some B->Hk φ κ i 0 B g)->(∀ (i v:Nat),(bs.length<=i\/0 < v)->φ i v=none)->(∀ (i v:Nat),(bs.length<=i\/0 < v)->κ i v=none) ->
  (∀ x,Sa x + Sb x<=1)->(∀ x,Sa x + Sb x≠0->x < w.heap.size)->(∀ x,R x->x < w.heap.size/\Sa x + Sb x=0)->J 0 w (fun x=>Sa x + Sb x) R ->
  Calls P g (.func (.yield l) #[] #[] :: vs).toArray w fun e w'=>∃ v L' R',e=.returned v/\(J ys.length w' L' R'\/Jx w' L' R')
def AV.fre:AV->Bool
 | .ag l=>l.all AV.leaf
 | a=>a.leaf
inductive Yv:AV->AV->Prop
 | same {a}:a.fre=true->Yv a a
 | nl {o k}:Yv (.sc (.slice none 0 0)) (.sl o k [])
 | fs {k s}:Yv (.fs k s) (.sl none k s)
inductive YvL:List AV->List AV->Prop
 | nil:YvL [] []
 | cons {a a' l l'}:Yv a a'->YvL l l'->YvL (a :: l) (a' :: l')
section
variable {w:World} {φ:Fi} {κ:Ka} {R:Nat->Prop}
theorem Yv.rv:∀ {a a':AV},Yv a a'->∀ {v:Value},RV w φ κ R a v Ct.z->RV w noφ noκ R a' v Ct.z
 | _,_,.same (a:=a) h,v,hr=>by
  by_cases hag:∃ l,a=.ag l
  ·obtain ⟨l,rfl⟩:=hag
   cases hr with
   | ag h1 h2=>exact .ag (RC.any _ _ h1 fun x hx=>List.all_eq_true.1 h x hx) h2
  ·refine RV.any _ _ hr ?_
   cases a<;>first|exact h|exact absurd ⟨_,rfl⟩ hag
 | _,_,.nl,v,hr=>by cases hr;exact .ni
 | _,_,.fs,v,hr=>by
  generalize hz:Ct.z=Z at hr ⊢
  cases hr with
  | fs h1 _=>exact RV.any _ _ h1 rfl
theorem YvL.rc:∀ {l l':List AV},YvL l l'->∀ {vs:List Value},RC w φ κ R l vs Ct.z->RC w noφ noκ R l' vs Ct.z
 | _,_,.nil,_,h=>by cases h;exact .nil
 | _,_,.cons h k,_,hr=>by
  cases hr with
  | cons h1 h2 h3=>
   obtain ⟨rfl,rfl⟩:=Ct.split h3;exact .cons (S:=Ct.z) (T:=Ct.z) (h.rv h1) (k.rc h2) fun _=>rfl
end
def ny1 (k:Nat):Nat->List Sl->Bool
 | _,[]=>true
 | n,e :: l=>(match Nat.beq n k with|true=>true|false=>!e.b.isY) && ny1 k (n + 1) l
theorem ny1_at {k:Nat}:∀ {l:List Sl} {n i u:Nat} {J:Jt},ny1 k n l=true->l[i]? = some ⟨u,.y J⟩->n + i=k
 | [],_,_,_,_,_,h=>by simp at h
 | e :: l,n,0,u,J,h,hi=>by
  simp at hi;subst hi
  simp only [ny1,Bool.and_eq_true] at h;rw [Nat.add_zero]
  cases hn:Nat.beq n k with
  | true=>exact Nat.eq_of_beq_eq_true hn
  | false=>have:=h.1;rw [hn] at this;cases this
 | e :: l,n,i + 1,u,J,h,hi=>by
  simp only [ny1,Bool.and_eq_true] at h;have:=ny1_at (i:=i) h.2 (by simpa using hi);omega
section
variable {P:Program} {X:Cx} {s:AS} {ops:Array Oper} {rest:List Oper} {o:Oper} {Q:Exit->AS->Prop}
theorem SatW.hold {φ:Fi} {κ:Ka} {f:Nat->Ct} {a:Act} {w:World} (h:SatW X φ κ f Ct.z s a w) {k u:Nat} {J:Jt} (hk:s.b[k]? = some ⟨u,.y J⟩) (hcl:Jcl J):J w (sumF f s.b.length) X.R:=by
 obtain ⟨R0,h1,h2,h3⟩:=h.df.yd k u J hk;refine hcl _ _ _ _ _ _ h1 h.fr (fun x=>by have:=h.one x;simp only [Ct.z] at this;omega) (fun x hx=>h.own x (by simp only [Ct.z];omega)) h2 fun x hx=>?_
 have:=h.rd x hx;simp only [Ct.z] at this;exact ⟨this.1,by omega,h3 x hx⟩
theorem ap_yield {l k u:Nat} {J J' Jx:Jt} {y:List AV} {fo:Operand} {xs:Array Operand} {tys:Array TypeId} (hg:o.guard=none) (ho:o.op=.call { callee:=.value fo,args:=xs,argTypes:=tys }) (hfo:aev s fo=.sc (.func (.yield l) #[] #[]))
 (hk:s.b[k]? = some ⟨u,.y J⟩) (hn:ny1 k 0 s.b=true) (hcl:Jcl J) (hY:Yok P l J y J' Jx) (hy:YvL (xs.toList.map (aev s)) y) (hyl:X.yl=true) (hρ:X.ρ=none)
 (K1:AP P X ops Q rest (AS.put ⟨s.t,s.b.set k ⟨u,.y J'⟩⟩ o.dst (.sc (.bool true)))) (K2:AP P X ops Q rest (AS.put ⟨s.t,s.b.set k ⟨u,.y Jx⟩⟩ o.dst (.sc (.bool false)))):AP P X ops Q (o :: rest) s:=by
 rintro a w ⟨X0,φ,κ,f,hX0,h⟩;refine wpL_plain hg fun K' hK'=>?_
 have hJ:=h.hold hk hcl;have hrc:=hy.rc (h.evl xs.toList);obtain ⟨fn,tmps,assign,body,hrun,hR⟩:=hY w _ _ _ hJ hrc;have hfv:=h.evc hfo
 have hex:(execOp a.eval o).run P w=.ok (.round l fn tmps assign body) w:=by
  have e0:(xs.toList.map a.eval).toArray=xs.map a.eval:=by cases xs;simp
  rw [e0] at hrun;simp only [execOp,ho,resolve,Deferred.ofValue,hfv,Sem.run_bind,Sem.run_pure,Result.andThen_ok,invoke,Array.empty_append];exact hrun
 have hkl:=(List.getElem?_eq_some_iff.1 hk).1;refine ⟨fun _ _=>Fw_fn _ _,?_⟩;rw [semAt_of hex (fun d=>by simp)];refine ⟨fun hd=>(by rw [Fw_depth] at hd;simp at hd),?_⟩;rw [hρ];refine hR.mono ?_;rintro e w' ⟨b,rfl,hJ',hsz,hkeep⟩;refine hK' _ _ ?_;have hR':∀ x,X0.R x->w'.heap[x]? = w.heap[x]?:=fun x hx=>hkeep x (h.rd x hx).1 (.inr hx)
 have hL':∀ i,i < s.b.length->∀ x,f i x≠0->w'.heap[x]? = w.heap[x]?:=fun i hi x hx=>by
  have h1:=sumF_le f x _ i hi;exact hkeep x (h.own x (by omega)).1 (.inl (by omega))
 have hz:f k=Ct.z:=by
  have:=h.sl k _ hk;generalize f k=S at this
  cases this;rfl
 have main:∀ JJ:Jt,JJ w' (sumF f s.b.length) X0.R->∃ X2,X.le X2/\SatW X2 φ κ f Ct.z ⟨s.t,s.b.set k ⟨u,.y JJ⟩⟩ a w':=fun JJ hJJ=>by
  refine ⟨⟨X0.R,w',sumF f s.b.length,X0.g0,X0.p0,X0.q0,X0.ρ,X0.yl,X0.dB,X0.mks⟩,hX0.trans ⟨fun e=>(by rw [hX0.yl,hyl] at e;cases e),rfl,rfl,rfl,rfl,rfl,rfl,rfl,fun _ h=>h⟩,?_⟩
  exact
   { tm:=RC.keep hR' h.tm fun x hx=>absurd rfl hx
     df:=by
      obtain ⟨d0,Ds,d1,d2,d3⟩:=h.df.df;refine ⟨⟨Nat.le_trans d0 hsz,Ds,d1,d2,fun D hD=>⟨(d3 D hD).1,(d3 D hD).2.1,(hR' D (d3 D hD).2.1).trans (d3 D hD).2.2⟩⟩,fun i v J2 hi=>?_⟩
      by_cases hik:i=k
      ·subst hik;rw [List.getElem?_set_self hkl] at hi
       injection hi with hi;injection hi with _ hi;injection hi with hi;subst hi
       exact ⟨X0.R,hJJ,fun _ h=>h,fun x hx=>.inl hx⟩
      ·rw [List.getElem?_set_ne (Ne.symm hik)] at hi;have:=ny1_at hn hi;omega
     sl:=fun i e' hi=>by
      by_cases hik:i=k
      ·subst hik;rw [List.getElem?_set_self hkl] at hi
       injection hi with hi;subst hi
       rw [hz];exact .y
      ·rw [List.getElem?_set_ne (Ne.symm hik)] at hi;exact RS.keep hR' (h.sl i e' hi) (hL' i (List.getElem?_eq_some_iff.1 hi).1)
     one:=fun x=>by have:=h.one x;simpa using this
     own:=fun x hx=>by
      simp only [List.length_set] at hx;have:=h.own x hx;exact ⟨Nat.lt_of_lt_of_le this.1 hsz,.inl (by simp only [Ct.z] at hx;show sumF f s.b.length x≠0;omega)⟩
     rd:=fun x hx=>by
      have:=h.rd x hx;simp only [List.length_set];exact ⟨Nat.lt_of_lt_of_le this.1 hsz,this.2⟩
     fr:=Fr.refl _ _
     bas:=h.bas
     new:=fun i v hv=>h.new i v fun e' he=>by
      by_cases hik:i=k
      ·subst hik;rw [hk] at he;injection he with he;subst he
       exact hv ⟨u,.y JJ⟩ (List.getElem?_set_self hkl)
      ·exact hv e' (by rw [List.getElem?_set_ne (Ne.symm hik)];exact he) }
 cases b with
 | true=>
  obtain ⟨X2,hX2,h2⟩:=main J' hJ';exact K1 _ _ ⟨X2,φ,κ,f,hX2,h2.puts o.dst (.sc rfl)⟩
 | false=>
  obtain ⟨X2,hX2,h2⟩:=main Jx hJ';exact K2 _ _ ⟨X2,φ,κ,f,hX2,h2.puts o.dst (.sc rfl)⟩
end
def ItQ (n:Nat) (JJ Jx:Jt):Exit->AS->Prop:=fun e s=>(e=.normal\/e=.ret)/\∃ u J',s.b[n]? = some ⟨u,.y J'⟩/\(J'=JJ\/J'=Jx)
theorem IC.enter {g:Nat} {F:Func} {c:Code} {nt:Nat} {cap:List AV} {bs:List Bx} {ys:List (List AV)} {b1:Jt->List Sl} (hf:prog.funcs[g]? = some F) (hb:F.body=some c) (hname:(F.name == "runtime.NumGoroutine")=false) (hnt:F.ntmps=nt) (hres:F.results.toList=[])
 (hfl:∀ x∈cap,x.fl1) (hbk:∀ J,Bk (List.replicate bs.length ⟨0,.o⟩ ++ [⟨0,.y J⟩]) ((List.range bs.length).map fun i=>(i,0)) bs (b1 J))
 (K:∀ (X:Cx) (l:Nat) (J:Nat->Jt) (Jx:Jt),X.ρ=none->X.yl=true->(∀ i,Jcl (J i))->Jcl Jx->(∀ (i:Nat) (y:List AV),ys[i]? = some y->Yok prog l (J i) y (J (i + 1)) Jx) ->
   CP prog X c (ItQ bs.length (J ys.length) Jx) ⟨.sc (.func (.yield l) #[] #[]) :: ((opnL cap (b1 (J 0))).1 ++ List.replicate (nt - (cap.length + 1)) (.tu [])),(opnL cap (b1 (J 0))).2⟩):IC prog g cap bs ys:=by
 refine ⟨fun xs w=>?_,?_⟩
 ·have hn:¬ (F.name= "runtime.NumGoroutine"):=by simpa using hname
  simp [callFunc,hf,hn,hb,go_sem,program,Sem.run,Sem.run_bind]
 intro l J Jx hJ hJx hY w φ κ R vs gs Sa Sb hr hrx hφ hφn hκn hone hown hR hJ0;have hgl:=hrx.length;have hvl:=hr.length;refine callsIn_wide.1 (callsIn_of_wp_marks (F:=Fence.wide) (n:=0) hf hb trivial ?_ rfl);rw [hnt];have hat:({ tmps:=(Value.func (.yield l) #[] #[] :: vs).toArray ++ Array.replicate (nt - (Value.func (.yield l) #[] #[] :: vs).toArray.size) undef,defers:=[] }:Act).tmps.toList=.func (.yield l) #[] #[] :: (vs ++ List.replicate (nt - (cap.length + 1)) undef):=by simp [hvl]
 generalize hact:({ tmps:=(Value.func (.yield l) #[] #[] :: vs).toArray ++ Array.replicate (nt - (Value.func (.yield l) #[] #[] :: vs).toArray.size) undef,defers:=[] }:Act)=a at *
 have h0:SatW ⟨R,w,fun x=>Sa x + Sb x,[],fun _ _=>none,fun _ _=>none,none,true,(w.heap.size,[]),false⟩ φ κ (fun _=>Ct.z) (fun x=>Sa x + Sb x) ⟨List.replicate a.tmps.toList.length .de,List.replicate bs.length ⟨0,.o⟩ ++ [⟨0,.y (J 0)⟩]⟩ a w:=
  { tm:=RC.des _
    df:=⟨⟨Nat.le_refl _,[],by rw [←hact];rfl,⟨List.nodup_nil,fun _=>rfl,fun _=>rfl⟩,fun _ h=>by cases h⟩,fun i u JJ hi=>by
     by_cases hil:i < bs.length
     ·rw [List.getElem?_append_left (by simpa using hil),List.getElem?_replicate,if_pos hil] at hi
      cases hi
     ·have hie:i=bs.length:=by have:=(List.getElem?_eq_some_iff.1 hi).1;simp at this;omega
      subst hie;rw [List.getElem?_append_right (by simp)] at hi;simp at hi;obtain ⟨_,rfl⟩:=hi;exact ⟨R,hJ0,fun _ h=>h,fun x hx=>.inl hx⟩⟩
    sl:=fun i e he=>by
     by_cases hil:i < bs.length
     ·rw [List.getElem?_append_left (by simpa using hil),List.getElem?_replicate,if_pos hil] at he
      injection he with he;subst he;exact .o
     ·have hie:i=bs.length:=by have:=(List.getElem?_eq_some_iff.1 he).1;simp at this;omega
      subst hie;rw [List.getElem?_append_right (by simp)] at he;simp at he;subst he;exact .y
    one:=fun x=>by rw [sumF_z];have:=hone x;omega
    own:=fun x hx=>by rw [sumF_z] at hx;exact ⟨hown x (by omega),.inl (by show Sa x + Sb x≠0;omega)⟩
    rd:=fun x hx=>by rw [sumF_z];have:=hR x hx;exact ⟨this.1,by (try dsimp only);omega⟩
    fr:=Fr.refl _ _
    bas:=⟨fun _ _ h=>by simp at h,(fun _ _ _ h=>by cases h),fun _ _ _ h=>by cases h⟩
    new:=fun i v hv=>by
     have hc:bs.length<=i\/0 < v:=by
      by_cases hi:i < bs.length
      ·have:=hv ⟨0,.o⟩ (by rw [List.getElem?_append_left (by simpa using hi),List.getElem?_replicate,if_pos hi]);exact .inr this
      ·exact .inl (by omega)
     exact ⟨hφn i v hc,hκn i v hc⟩ }
 obtain ⟨φ1,κ1,f1,e1,e2,e3⟩:=SatW.bk (hbk (J 0)) (L':=Sa) h0 hrx (fun x=>by (try dsimp only);omega) (fun i k u B hi hB=>by
  simp only [List.getElem?_map,Option.map_eq_some_iff] at hi;obtain ⟨j,hj,hjk⟩:=hi;obtain ⟨hlt,he⟩:=List.getElem?_eq_some_iff.1 hj;simp at hlt he;subst he
  injection hjk with e1 e2
  subst e1 e2;have hg:gs[i]? = some (gs[i]'(by omega)):=List.getElem?_eq_getElem (by omega);exact ⟨_,hg,hφ _ _ _ hg hB⟩)
 obtain ⟨φ2,κ2,f2,e4,e5,e6,e7⟩:=e3.opnL_ (L':=Ct.z) (RC.hist e1 e2 (fun _ h=>h) hr) (fun x=>by simp [Ct.z]) hfl
 have h1:Sat ⟨R,w,fun x=>Sa x + Sb x,[],fun _ _=>none,fun _ _=>none,none,true,(w.heap.size,[]),false⟩ ⟨.sc (.func (.yield l) #[] #[]) :: ((opnL cap (b1 (J 0))).1 ++ List.replicate (nt - (cap.length + 1)) (.tu [])),(opnL cap (b1 (J 0))).2⟩ a w:=
  ⟨_,φ2,κ2,f2,.rfl,e7.retm (by rw [hat];exact .cons (S:=Ct.z) (T:=Ct.z) (.sc rfl) (e6.append (RC.und _) fun _=>rfl) fun _=>rfl) rfl⟩
 refine wpIn_mono (K _ l J Jx rfl rfl hJ hJx hY a w h1) ?_;rintro e a0 w0 ⟨s',⟨hE,u,J',hJ',hj⟩,X3,φ3,κ3,f3,hX3,h30⟩;obtain ⟨Ds,hDs,hnd,hDn,hDm,h3⟩:=h30.shut (fun h=>by rw [hX3.mks] at h;cases h) (by rw [hX3.dB]);obtain rfl:=hDn hX3.mks;have hw':Go.Proofs.YtnjllcnjcpfbhaaGreat.shut w0 []=w0:=rfl;rw [hw'] at h3;have hcl:Jcl J':=by rcases hj with rfl|rfl;exact hJ _;exact hJx
 have hold:=h3.hold hJ' hcl;obtain ⟨v,hv,hrun⟩:=run_results (F:=F) (l:=[]) h3 (by rw [hres];exact .nil)
 have hfin:∀ R:Ending->World->Prop,R (.returned v) w0->LeavesInM Fence.wide 0 prog F a0.tmps R a0.defers .returning w0:=fun R hR=>by
  rw [hDs];exact leaves_marks [] w0 hnd hDm ⟨v,hrun,hR⟩
 have hpost:∃ v1 L' R',Ending.returned v=.returned v1/\(J ys.length w0 L' R'\/Jx w0 L' R'):=
  ⟨v,_,_,rfl,by rcases hj with rfl|rfl;exact .inl hold;exact .inr hold⟩
 rcases hE with rfl|rfl
 ·exact hfin _ hpost
 ·exact hfin _ hpost
theorem AP.YI {X:Cx} {s:AS} {ops:Array Oper} {rest:List Oper} {o:Oper} {Q:Exit->AS->Prop} {l k u:Nat} {J J' Jx:Jt} {y:List AV} {fo:Operand} {xs:Array Operand} {tys:Array TypeId} (hY:Yok prog l J y J' Jx) (K1:AP prog X ops Q rest (AS.put ⟨s.t,s.b.set k ⟨u,.y J'⟩⟩ o.dst (.sc (.bool true)))) (K2:AP prog X ops Q rest (AS.put ⟨s.t,s.b.set k ⟨u,.y Jx⟩⟩ o.dst (.sc (.bool false))))
 (hg:o.guard=none:=by exact rfl) (ho:o.op=.call { callee:=.value fo,args:=xs,argTypes:=tys }:=by exact rfl) (hfo:aev s fo=.sc (.func (.yield l) #[] #[]):=by exact rfl)
 (hk:s.b[k]? = some ⟨u,.y J⟩:=by exact rfl) (hn:ny1 k 0 s.b=true:=by exact rfl) (hcl:Jcl J:=by assumption) (hy:YvL (xs.toList.map (aev s)) y:=by (repeat' (first|exact YvL.nil|apply YvL.cons (Yv.same rfl)|apply YvL.cons Yv.nl|apply YvL.cons Yv.fs));all_goals fail) (hyl:X.yl=true:=by assumption) (hρ:X.ρ=none:=by assumption):AP prog X ops Q (o :: rest) s:=
 ap_yield hg ho hfo hk hn hcl hY hy hyl hρ K1 K2
theorem IC.N {g:Nat} {F:Func} {c:Code} {nt:Nat} {cap:List AV} {bs:List Bx} {ys:List (List AV)} {b1:Jt->List Sl} (hf:prog.funcs[g]? = some F) (hnt:F.ntmps=nt)
 (K:∀ (X:Cx) (l:Nat) (J:Nat->Jt) (Jx:Jt),X.ρ=none->X.yl=true->(∀ i,Jcl (J i))->Jcl Jx->(∀ (i:Nat) (y:List AV),ys[i]? = some y->Yok prog l (J i) y (J (i + 1)) Jx) ->
   CP prog X c (ItQ bs.length (J ys.length) Jx) ⟨.sc (.func (.yield l) #[] #[]) :: ((opnL cap (b1 (J 0))).1 ++ List.replicate (nt - (cap.length + 1)) (.tu [])),(opnL cap (b1 (J 0))).2⟩)
 (hb:F.body=some c:=by exact rfl) (hname:(F.name == "runtime.NumGoroutine")=false:=by exact rfl) (hres:F.results.toList=[]:=by exact rfl) (hfl:∀ x∈cap,x.fl1:=by exact fl1_all rfl) (hbk:∀ J,Bk (List.replicate bs.length ⟨0,.o⟩ ++ [⟨0,.y J⟩]) ((List.range bs.length).map fun i=>(i,0)) bs (b1 J):=by (intro J;(repeat' (first|exact Bk.nil|apply Bk.cF rfl rfl|(apply Bk.cN rfl;(try refine NX ?_);apply BkN.mk rfl)|apply Bk.r rfl));all_goals fail)):IC prog g cap bs ys:=IC.enter hf hb hname hnt hres hfl hbk K
def nyA (l:List Sl):Bool:=l.all fun e=>!e.b.isY
theorem nyA_at {l:List Sl} (h:nyA l=true) {i u:Nat} {J:Jt} (hi:l[i]? = some ⟨u,.y J⟩):False:=by
 have:=List.all_eq_true.1 h _ (List.mem_of_getElem? hi)
 cases this
abbrev Cx.loc (X:Cx) (φ:Fi) (κ:Ka) (S:Ct) (w:World) (ρ:Option Nat):Cx:=⟨X.R,w,S,[],φ,κ,ρ,false,X.dB,X.mks⟩
section
variable {X:Cx} {φ:Fi} {κ:Ka} {f:Nat->Ct} {L L':Ct} {s:AS} {a:Act} {w w':World}
theorem SatW.aside (h:SatW X φ κ f L s a w) (hn:nyA s.b=true) (ρ:Option Nat) {t:List AV} {a':Act} (ht:RC w φ κ X.R t a'.tmps.toList Ct.z) (hmk:X.mks=true) (hd:a'.defers=[]\/a'.defers=a.defers):Sat (X.loc φ κ (sumF f s.b.length) w ρ) ⟨t,s.b⟩ a' w:=
 ⟨_,φ,κ,f,.rfl,
  { tm:=ht
    df:=⟨by
     obtain ⟨d0,Ds,d1,d2,d3⟩:=h.df.df;rcases hd with hd|hd
     ·exact ⟨d0,[],by rw [hd];exact (d2.2.2 hmk).symm,⟨List.nodup_nil,fun _=>rfl,d2.2.2⟩,fun _ h=>by cases h⟩
     ·exact ⟨d0,Ds,hd.trans d1,d2,d3⟩,fun i u J hi=>(nyA_at hn hi).elim⟩
    sl:=h.sl
    one:=fun x=>by have:=h.one x;simp only [Ct.z];omega
    own:=fun x hx=>by simp only [Ct.z] at hx;exact ⟨(h.own x (by omega)).1,.inl (by show sumF f s.b.length x≠0;omega)⟩
    rd:=fun x hx=>by have:=h.rd x hx;exact ⟨this.1,by simp only [Ct.z];omega⟩
    fr:=Fr.refl _ _
    bas:=⟨(fun i g hi=>by simp at hi),(fun _ _ _ h=>h),fun _ _ _ h=>h⟩
    new:=h.new }⟩
theorem SatW.back (h:SatW X φ κ f L s a w) {ρ:Option Nat} {s3:AS} {a3:Act} {w3:World} (h3:Sat (X.loc φ κ (sumF f s.b.length) w ρ) s3 a3 w3) (hn:nyA s3.b=true) :
 ∃ R3 φ3 κ3 f3,X.le (X.gr R3)/\SatW (X.gr R3) φ3 κ3 f3 L s3 a3 w3/\(∀ b u g,φ b u=some g->φ3 b u=some g)/\(∀ b u v,κ b u=some v->κ3 b u=some v)/\(∀ x,X.R x->R3 x)/\w.heap.size<=w3.heap.size/\∀ x,x < w.heap.size->L x≠0\/X.R x->w3.heap[x]? = w.heap[x]?:=by
 obtain ⟨X3,φ3,κ3,f3,hX3,h3⟩:=h3;obtain ⟨hw3,hS3,hdn⟩:=hX3.fx rfl;have hdn:∀ x,X3.R x->X.R x\/sumF f s.b.length x≠0\/w.heap.size<=x:=hdn;have hup:∀ x,X.R x->X3.R x:=hX3.up;have hfr:Fr w w3 (sumF f s.b.length):=by have:=h3.fr;rwa [hw3,hS3] at this
 have hown:∀ x,sumF f3 s3.b.length x≠0->x < w3.heap.size/\(sumF f s.b.length x≠0\/w.heap.size<=x):=fun x hx=>by
  have:=h3.own x (by simp only [Ct.z];omega)
  rwa [hS3,hw3] at this
 have hone:∀ x,sumF f3 s3.b.length x<=1:=fun x=>by have:=h3.one x;simp only [Ct.z] at this;omega
 have hL:∀ x,L x≠0->x < w.heap.size/\sumF f s.b.length x=0:=fun x hx=>by have h1:=h.one x;have h2:=h.own x (by omega);exact ⟨h2.1,by omega⟩
 have hL3:∀ x,L x≠0->sumF f3 s3.b.length x=0:=fun x hx=>by have h1:=hL x hx;have h2:=hown x;omega
 have hup0:∀ x,sumF f s.b.length x≠0->X.S0 x≠0\/X.w0.heap.size<=x:=fun x hx=>(h.own x (by omega)).2
 have hsz:=hfr.size;have hsz0:=h.fr.size
 have hdn':∀ x,X3.R x->X.R x\/X.S0 x≠0\/X.w0.heap.size<=x:=fun x hx=>by
  rcases hdn x hx with h1|h1|h1
  ·exact .inl h1
  ·exact .inr (hup0 x h1)
  ·exact .inr (.inr (by omega))
 have hφ:∀ b u g,φ b u=some g->φ3 b u=some g:=fun b u g hg=>h3.bas.2.1 b u g (by rw [hX3.p0];exact hg)
 have hκ:∀ b u v,κ b u=some v->κ3 b u=some v:=fun b u g hg=>h3.bas.2.2 b u g (by rw [hX3.q0];exact hg)
 refine ⟨X3.R,φ3,κ3,f3,Cx.le_gr hup hdn',?_,hφ,hκ,hup,hsz,fun x hx hh=>?_⟩
 ·exact
   { tm:=h3.tm
     df:=⟨by have:=h3.df.df;rw [hX3.dB,hX3.mks] at this;exact this,fun i u J hi=>(nyA_at hn hi).elim⟩
     sl:=h3.sl
     one:=fun x=>by
      have h1:=hone x;have h2:=hL3 x;have h4:=h.one x;omega
     own:=fun x hx=>by
      by_cases h1:sumF f3 s3.b.length x=0
      ·have h2:=h.own x (by omega);exact ⟨by omega,h2.2⟩
      ·have h2:=hown x h1;refine ⟨h2.1,?_⟩;rcases h2.2 with h4|h4
       ·exact hup0 x h4
       ·exact .inr (by show X.w0.heap.size<=x;omega)
     rd:=fun x hx=>by
      have h1:=h3.rd x hx;simp only [Ct.z] at h1;refine ⟨h1.1,?_⟩
      have h5:L x=0:=by
       rcases hdn x hx with h4|h4|h4
       ·have:=h.rd x h4;omega
       ·have:=h.one x;omega
       ·have:=hL x;omega
      omega
     fr:=by
      have h1:=h.fr;refine ⟨hfr.os.trans h1.os,hfr.tape.trans h1.tape,hfr.output.trans h1.output,Nat.le_trans h1.size hfr.size,fun b hb hS=>?_⟩;have h2:=h.own b;rw [hfr.block b (Nat.lt_of_lt_of_le hb h1.size) (by dsimp only at hb hS;omega)];exact h1.block b hb hS
     bas:=⟨fun i g hi=>hφ _ _ _ (h.bas.1 i g hi),fun b u g hi=>hφ _ _ _ (h.bas.2.1 b u g hi),fun b u g hi=>hκ _ _ _ (h.bas.2.2 b u g hi)⟩
     new:=h3.new }
 ·refine hfr.block x hx ?_;rcases hh with hh|hh
  ·exact (hL x hh).2
  ·have:=h.rd x hh;omega
theorem SatW.poke (h:SatW X φ κ f L s a w) {l:Nat} (o:Obj) (hl:L l≠0):SatW X φ κ f L s a (w.putObj l o):=by
 refine h.went ⟨rfl,rfl,rfl,by simp,fun b hb hL=>World.putObj_heap_other (fun e=>hl (e ▸ hL))⟩ (fun x=>by have:=h.one x;omega) fun x hx=>?_
 have:=h.own x (by omega);exact ⟨by simp;exact this.1,.inl hx⟩
theorem SatW.refr (h:SatW X φ κ f L s a w) {t:List AV} {a':Act} (ht:RC w φ κ X.R t a'.tmps.toList Ct.z) (hd:Dfy X s.b a'.defers w):SatW X φ κ f L ⟨t,s.b⟩ a' w:=
 { tm:=ht,df:=hd,sl:=h.sl,one:=h.one,own:=h.own,rd:=h.rd,fr:=h.fr,bas:=h.bas,new:=h.new }
theorem RXs.keep {R:Nat->Prop} (hr:∀ x,R x->w'.heap[x]? = w.heap[x]?):∀ {bs gs S},RXs w R bs gs S->(∀ x,S x≠0->w'.heap[x]? = w.heap[x]?)->RXs w' R bs gs S
 | _,_,_,.nil,_=>.nil
 | _,_,_,.cons (.r a) h1 h2,hS=>.cons (.r (RV.keep hr a fun x hx=>hS x (by rw [h2];omega))) (RXs.keep hr h1 fun x hx=>hS x (by rw [h2];omega)) h2
 | _,_,_,.cons (S:=S) (T:=T) (.c (g:=g) (S':=S') a b c d e) h1 h2,hS=>.cons (.c ((hS g (by rw [h2,e];simp)).trans a) (RC.keep hr b fun x hx=>hS x (by rw [h2,e];omega)) c d e) (RXs.keep hr h1 fun x hx=>hS x (by rw [h2];omega)) h2
end
def putL:List AV->List Nat->List AV->List AV
 | t,p :: ps,v :: vs=>putL (t.set p v) ps vs
 | t,_,_=>t
theorem RC.putL {w:World} {φ:Fi} {κ:Ka} {R:Nat->Prop}:∀ (ps:List Nat) {t:List AV} {tmps:Array Value} {y:List AV} {vs:List Value},RC w φ κ R t tmps.toList Ct.z->RC w φ κ R y vs Ct.z ->
 RC w φ κ R (putL t ps y) ((ps.zip vs).foldl (fun t (p,v)=>t.setIfInBounds p v) tmps).toList Ct.z
 | [],_,_,_,_,h,_=>by simpa [Go.Proofs.YtnjllcnjcpfbhaaGreat.putL] using h
 | p :: ps,t,tmps,y,vs,h,hy=>by
  cases hy with
  | nil=>simpa [Go.Proofs.YtnjllcnjcpfbhaaGreat.putL] using h
  | cons h1 h2 h3=>
   obtain ⟨rfl,rfl⟩:=Ct.split h3;simp only [Go.Proofs.YtnjllcnjcpfbhaaGreat.putL,List.zip_cons_cons,List.foldl_cons];refine RC.putL ps ?_ h2;rw [Array.toList_setIfInBounds];exact h.set_ h1
def RdQ (st':List Sl) (E:Code->List Sl->Prop):Exit->AS->Prop
 | .normal,s=>∃ t',Gh s ⟨t',st'⟩
 | .ret,s=>∃ t' b,Gh s ⟨t',b⟩/\E .ret b/\nyA b=true
 | .exit id,s=>∃ t' b,Gh s ⟨t',b⟩/\E (.exit id) b/\nyA b=true
 | _,_=>False
def JC (X:Cx) (t:List AV) (a:Act) (D l:Nat) (bst:List Sl) (rc:Obj):Jt:=fun w L R=>∃ X' φ κ f,X.le X'/\SatW X' φ κ f (fun x=>L x + if x=l then 1 else 0) ⟨t,bst⟩ a w/\(∀ x,R x->X'.R x)/\X'.R D/\w.heap[D]? = some (.deferred (some []))/\w.heap[l]? = some rc
theorem JC.cl {X:Cx} {t:List AV} {a:Act} {D l:Nat} {bst:List Sl} {rc:Obj}:Jcl (JC X t a D l bst rc):=by
 rintro w w' L L' R R' ⟨X',φ,κ,f,hX,h,hR,hD,hDh,hl⟩ hfr h1 h2 hup hdn
 have hl0:L l=0/\l < w.heap.size:=by
  have e1:=h.one l;have e2:=h.own l;simp only [if_true] at e1 e2;exact ⟨by omega,(e2 (by omega)).1⟩
 have hl':L' l=0:=by
  have:=h2 l;omega
 have hsz:=hfr.size
 have h3:SatW X' φ κ f (fun x=>L' x + if x=l then 1 else 0) ⟨t,bst⟩ a w':=by
  refine h.went ⟨hfr.os,hfr.tape,hfr.output,hfr.size,fun b hb hL=>hfr.block b hb (by (try dsimp only at hL);omega)⟩ (fun x=>?_) (fun x hx=>?_)
  ·(try dsimp only)
   by_cases hx:x=l
   ·subst hx;simp [hl']
   ·simp [hx];exact h1 x
  ·(try dsimp only at hx ⊢)
   by_cases hxl:x=l
   ·subst hxl;exact ⟨by omega,.inl (by simp)⟩
   ·simp [hxl] at hx ⊢;exact h2 x hx
 have hdn':∀ x,X'.R x\/R' x->X'.R x\/X'.S0 x≠0\/X'.w0.heap.size<=x:=fun x hx=>by
  rcases hx with hx|hx
  ·exact .inl hx
  ·rcases (hdn x hx).2.2 with h4|h4|h4
   ·exact .inl (hR x h4)
   ·exact .inr (h.own x (by (try dsimp only);omega)).2
   ·have:=h.fr.size;exact .inr (.inr (by omega))
 refine ⟨X'.gr (fun x=>X'.R x\/R' x),φ,κ,f,hX.trans (Cx.le_gr (fun x hx=>.inl hx) hdn'),h3.grow (fun x hx=>.inl hx) (fun x hx=>?_) hdn',fun x hx=>.inr hx,.inl hD,?_,?_⟩
 ·rcases hx with hx|hx
  ·exact h3.rd x hx
  ·obtain ⟨e1,e2,e3⟩:=hdn x hx;refine ⟨e1,?_⟩
   (try dsimp only)
   have hz:sumF f bst.length x=0/\x≠l:=by
    have e4:=h.one x;have e5:=h.own x
    (try dsimp only at e4 e5)
    rcases e3 with e3|e3|e3
    ·have:=(h.rd x (hR x e3)).2
     (try dsimp only at this)
     refine ⟨by omega,fun e=>?_⟩;rw [if_pos e] at this;omega
    ·refine ⟨by omega,fun e=>by rw [e] at e3;omega⟩
    ·refine ⟨?_,by omega⟩
     by_cases hz:sumF f bst.length x=0
     ·exact hz
     ·have:=(e5 (by omega)).1;omega
   rw [if_neg hz.2];omega
 ·have e1:=h.rd D hD
  (try dsimp only at e1)
  rw [hfr.block D e1.1 (by omega)];exact hDh
 ·rw [hfr.block l hl0.2 hl0.1];exact hl
theorem map_mark {l m:List Nat} (h:(l.map fun D=>({ target:=.collected D,args:=#[] }:Deferred))=m.map fun D=>{ target:=.collected D,args:=#[] }):l=m:=by
 induction l generalizing m with
 | nil=>cases m with
  | nil=>rfl
  | cons _ _=>simp at h
 | cons a l ih=>cases m with
  | nil=>simp at h
  | cons b m=>
   simp only [List.map_cons,List.cons.injEq,Deferred.mk.injEq,Target.collected.injEq] at h;rw [h.1.1,ih h.2]
theorem cp_range {P:Program} {X:Cx} {s:AS} {Q:Exit->AS->Prop} {g:Operand} {ps:Array Nat} {assign body:Code} {gf:Nat} {cap al:List AV} {ks:List (Nat×Nat)} {bs:List Bx} {b1 bf:List Sl} {ys:List (List AV)}
 (hc:IC P gf al bs ys) (st:Nat->List Sl) (E:Code->List Sl->Prop) (hρ:X.ρ=none) (hmk:X.mks=true) (hg:aev s g=.fn gf cap) (hbd:bdC cap=false) (hp:PasC false ks [] s.b cap al b1) (hout:Out b1 ks bs bf) (h0:Wks ⟨s.t,bf⟩ ⟨s.t,st 0⟩)
 (hps:∀ y∈ys,y.length=ps.size) (hny:∀ i,nyA (st i)=true)
 (round:∀ (i:Nat) (y:List AV),ys[i]? = some y->∀ (Xr:Cx) (l:Nat),Xr.ρ=some l->CP P Xr assign (fun e s1=>e=.normal/\nyA s1.b=true/\∀ Xb:Cx,Xb.ρ=some l->CP P Xb body (RdQ (st (i + 1)) E) s1) ⟨putL s.t ps.toList y,st i⟩)
 (done:Q .normal ⟨s.t,st ys.length⟩) (stop:∀ b,(E .ret b->Q .ret ⟨s.t,b⟩)/\∀ id,E (.exit id) b->Q (.exit id) ⟨s.t,b⟩):CP P X (.rangeFunc g ps assign body) Q s:=by
 rintro a w ⟨X0,φ,κ,f,hX0,h⟩;rw [hρ];have hgv:=h.evs hg
 obtain ⟨cvs,hcv,hcr⟩:∃ cvs:List Value,a.eval g=.func (.func gf) #[] cvs.toArray/\RC w φ κ X0.R cap cvs Ct.z:=by
  generalize a.eval g=v at hgv
  cases hgv with|fn h=>rw [hbd];exact ⟨_,rfl,h⟩
 obtain ⟨S1,f1,h1,hfin⟩:=SatW.pasC (t:=s.t) (hp.nobf bf) h hcr;obtain ⟨X1,gs,Sb,f2,hX1,h2,h3,h4⟩:=SatW.out hout h1;have hgl:=h2.length;have hkl:ks.length=bs.length:=hout.length;have hargs:=hfin X1 f2 _ (kφ ks φ) (kκ ks κ) hX1 h3 (fun i k u g hi hg=>kφ_at hi hg) (fun i k u v hi hv=>kκ_at hi hv);have hle:∀ x,lendR false X1 f2 bf.length x->X1.R x:=fun x hx=>hx.elim id fun h=>by cases h.1
 replace hargs:=RC.hist (fun _ _ _ h=>h) (fun _ _ _ h=>h) hle hargs
 obtain ⟨f2',h3'⟩:=h3.wk h0
 -- the record and the block are laid
 obtain ⟨D,hD⟩:∃ D,D=w.heap.size:=⟨_,rfl⟩;obtain ⟨l,hl⟩:∃ l,l=w.heap.size + 1:=⟨_,rfl⟩;refine wpIn_rangeFunc fun fn _=>?_
 obtain ⟨rec,hrec⟩:∃ rec:LoopState->Option Code->Loop,rec=fun st p=>{ state:=st,pending:=p,fn,tmps:=a.tmps,params:=ps,assign,body,defers:=D }:=⟨_,rfl⟩
 obtain ⟨w1,hw1⟩:∃ w1,w1=(w.alloc (.deferred (some []))).alloc (.loop (rec .ready none)):=⟨_,rfl⟩
 have hwD:w1.heap[D]? = some (.deferred (some [])):=by
  rw [hw1,hD,Below.heap_alloc _ _ _ (by simp)];exact World.alloc_heap_new _ _
 have hwl:w1.heap[l]? = some (.loop (rec .ready none)):=by
  rw [hw1,hl];have:=World.alloc_heap_new (w.alloc (.deferred (some []))) (.loop (rec .ready none))
  simpa using this
 have hw1s:w1.heap.size=w.heap.size + 2:=by rw [hw1];simp
 have hbel:Below w.heap.size w w1:=by rw [hw1];exact ((Below.refl _ w).alloc (Nat.le_refl _) _).alloc (by simp) _
 have hsum:∀ x,S1 x + Sb x=Sb x + (S1 x + Ct.z x):=fun x=>by simp only [Ct.z];omega
 have hnew:∀ x,w.heap.size<=x->S1 x + Sb x=0:=fun x hx=>by
  have:=h3.own x;rw [hsum];dsimp only at this;omega
 have h5:SatW X1 φ κ f2' (fun x=>(S1 x + Sb x) + if x=l then 1 else 0) ⟨s.t,st 0⟩ a w1:=by
  refine h3'.went ⟨hbel.os,hbel.tape,hbel.output,hbel.size,fun b hb _=>hbel.block b hb⟩ (fun x=>?_) fun x hx=>?_
  ·have:=h3'.one x;have h6:=hnew x;have h7:=hsum x;dsimp only at this ⊢;split<;>omega
  ·have h6:=hnew x;have h7:=hsum x;have h8:=h3'.own x;dsimp only at hx h8 ⊢
   by_cases hxl:x=l
   ·rw [hxl];exact ⟨by omega,.inr (by omega)⟩
   ·simp only [if_neg hxl] at hx;exact ⟨by have:=(h8 (by omega)).1;omega,.inl (by omega)⟩
 have hsz0:=h5.fr.size;have hsz1:=h3'.fr.size;have hdn1:∀ x,X1.R x\/x=D->X1.R x\/X1.S0 x≠0\/X1.w0.heap.size<=x:=fun x hx=>hx.imp id fun hx=>.inr (by omega)
 have h6:SatW (X1.gr fun x=>X1.R x\/x=D) φ κ f2' (fun x=>(S1 x + Sb x) + if x=l then 1 else 0) ⟨s.t,st 0⟩ a w1:=h5.grow (fun x hx=>.inl hx) (fun x hx=>by
  rcases hx with hx|hx
  ·exact h5.rd x hx
  ·subst hx;refine ⟨by omega,?_⟩;have h8:=h3'.own x;have h9:=hnew x (by omega);have h10:=hsum x;dsimp only at h8 ⊢;rw [if_neg (by omega)];omega) hdn1
 have hX01:X.le X1:=hX0.trans hX1
 have hJ0:JC X s.t a D l (st 0) (.loop (rec .ready none)) w1 (fun x=>S1 x + Sb x) X1.R:=
  ⟨_,φ,κ,f2',hX01.trans (Cx.le_gr (fun x hx=>.inl hx) hdn1),h6,fun x hx=>.inl hx,.inr rfl,hwD,hwl⟩
 -- a round
 have hY:∀ (i:Nat) (y:List AV),ys[i]? = some y->Yok P l (JC X s.t a D l (st i) (.loop (rec .ready none))) y (JC X s.t a D l (st (i + 1)) (.loop (rec .ready none)))
  (fun w L R=>∃ c b,(c=.ret\/∃ id,c=.exit id)/\E c b/\JC X s.t a D l b (.loop (rec .done (some c))) w L R):=by
  rintro i y hy w' L R vs ⟨X',φ',κ',f',hX',hS,hR',hDR,hDh,hlh⟩ hrc;have hyl:vs.length=ps.size:=by rw [hrc.length];exact hps y (List.mem_of_getElem? hy)
  have hyrun:=run_yield (P:=P) (args:=vs.toArray) hlh (by rw [hrec];simp [hyl]);rw [hrec] at hyrun;refine ⟨fn,_,assign,body,hyrun,roundIn_of_wpIn trivial ?_⟩;have hlL:(fun x=>L x + if x=l then 1 else 0) l≠0:=by simp
  have hll:l < w'.heap.size:=(hS.own l (by simp)).1
  have hnl:∀ x,X'.R x\/L x≠0->x≠l:=fun x hx e=>by
   subst e;rcases hx with hx|hx
   ·have:=(hS.rd _ hx).2;simp at this
   ·have:=hS.one x;simp at this;omega
  have hsat1:=hS.aside (hny i) (some l) (t:=putL s.t ps.toList y) (a':={ tmps:=(ps.zip vs.toArray).foldl (fun t (p,v)=>t.setIfInBounds p v) a.tmps,defers:=[] }) (by
   have:=RC.putL ps.toList hS.tm (RC.hist (φ':=φ') (κ':=κ') (fun _ _ _ h=>by cases h) (fun _ _ _ h=>by cases h) hR' hrc)
   have e:(ps.zip vs.toArray).foldl (fun t (p,v)=>t.setIfInBounds p v) a.tmps=(ps.toList.zip vs).foldl (fun t (p,v)=>t.setIfInBounds p v) a.tmps:=by
    rw [←Array.foldl_toList,Array.toList_zip]
   dsimp only;rw [e];exact this) (hX'.mks.trans hmk) (.inl rfl)
  refine wpIn_mono (round i y hy _ l rfl _ _ hsat1) ?_;rintro e a1 w1' ⟨s1,⟨rfl,hn1,hb1⟩,hsat2⟩;obtain ⟨R3,φ3,κ3,f3,hle3,hS3,hφ3,hκ3,hup3,hsz3,hk3⟩:=hS.back hsat2 hn1;have hl3:w1'.heap[l]? = some (.loop (rec .ready none)):=(hk3 l hll (.inl hlL)).trans hlh;refine ⟨_,run_beginRound hl3 (by rw [hrec]),?_⟩;have hS4:=hS3.poke (.loop { rec .ready none with state:=.busy }) hlL;have hsat4:=hS4.aside hn1 (some l) hS4.tm (hX'.mks.trans hmk) (.inr rfl);refine wpIn_mono (hb1 _ rfl _ _ hsat4) ?_;rintro e a5 w5 ⟨s5,hq,hsat5⟩
  have fin:∀ (t':List AV) (b:List Sl) (jump:Option Code),Gh s5 ⟨t',b⟩->nyA b=true->∃ w6,(Instr.endRound l jump).run P w5=.ok (.bool jump.isNone) w6/\JC X s.t a D l b (.loop (rec (if jump.isNone then .ready else .done) jump)) w6 L R /\
   w'.heap.size<=w6.heap.size/\∀ x,x < w'.heap.size->L x≠0\/R x->w6.heap[x]? = w'.heap[x]?:=by
   intro t' b jump hgh hnb;obtain ⟨R5,φ5,κ5,f5,hle5,hS5,hφ5,hκ5,hup5,hsz5,hk5⟩:=hS4.back (hgh _ _ _ hsat5) hnb;have hsz4:(w1'.putObj l (.loop { rec .ready none with state:=.busy })).heap.size=w1'.heap.size:=World.putObj_size;have hl5:w5.heap[l]? = some (.loop { rec .ready none with state:=.busy }):=(hk5 l (by rw [hsz4];omega) (.inl hlL)).trans (World.putObj_heap_same (by omega));have hrun:=run_endRound (P:=P) jump hl5;have hrc5:({ rec .ready none with state:=if jump.isNone then .ready else .done,pending:=jump }:Loop)=rec (if jump.isNone then .ready else .done) jump:=by rw [hrec]
   have hrun':(Instr.endRound l jump).run P w5=.ok (.bool jump.isNone) (w5.putObj l (.loop (rec (if jump.isNone then .ready else .done) jump))):=by rw [←hrc5];exact hrun
   have hS6:=hS5.poke (.loop (rec (if jump.isNone then .ready else .done) jump)) hlL
   have hall:∀ x,x < w'.heap.size->(L x≠0\/X'.R x)->(w5.putObj l (.loop (rec (if jump.isNone then .ready else .done) jump))).heap[x]? = w'.heap[x]?:=fun x hx hh=>by
    have hxl:x≠l:=hnl x (by rcases hh with hh|hh;exact .inr hh;exact .inl hh);rw [World.putObj_heap_other hxl];rw [hk5 x (by rw [hsz4];omega) (by rcases hh with hh|hh;exact .inl (by (try dsimp only);omega);exact .inr (hup3 x hh)),World.putObj_heap_other hxl];exact hk3 x hx (by rcases hh with hh|hh;exact .inl (by (try dsimp only);omega);exact .inr hh)
   have hRk:∀ x,X'.R x->(w5.putObj l (.loop (rec (if jump.isNone then .ready else .done) jump))).heap[x]? = w'.heap[x]?:=fun x hx=>hall x (hS.rd x hx).1 (.inr hx)
   have hsz6:w'.heap.size<=(w5.putObj l (.loop (rec (if jump.isNone then .ready else .done) jump))).heap.size:=by simp;omega
   have hS7:=hS6.refr (t:=s.t) (a':=a) (RC.hist (fun _ _ _ h=>hφ5 _ _ _ (hφ3 _ _ _ h)) (fun _ _ _ h=>hκ5 _ _ _ (hκ3 _ _ _ h)) (fun x hx=>hup5 x (hup3 x hx)) (RC.keep hRk hS.tm fun x hx=>absurd rfl hx)) ⟨by
    obtain ⟨d0,Ds,d1,d2,d3⟩:=hS.df.df;exact ⟨Nat.le_trans d0 hsz6,Ds,d1,d2,fun D' hD'=>⟨(d3 D' hD').1,hup5 _ (hup3 _ (d3 D' hD').2.1),(hRk D' (d3 D' hD').2.1).trans (d3 D' hD').2.2⟩⟩,fun i u J hi=>(nyA_at hnb hi).elim⟩
   refine ⟨_,hrun',⟨_,φ5,κ5,f5,hX'.trans (hle3.trans hle5),hS7,fun x hx=>hup5 x (hup3 x (hR' x hx)),hup5 _ (hup3 _ hDR),(hRk D hDR).trans hDh,World.putObj_heap_same (Array.getElem?_eq_some_iff.1 hl5).1⟩,hsz6,fun x hx hh=>hall x hx (by rcases hh with hh|hh;exact .inl hh;exact .inr (hR' x hh))⟩
  cases e with
  | normal=>
   obtain ⟨t',hgh⟩:=hq;obtain ⟨w6,q1,q2,q3,q4⟩:=fin t' _ none hgh (hny _);exact ⟨_,w6,q1,true,rfl,q2,q3,q4⟩
  | ret=>
   obtain ⟨t',b,hgh,hE,hnb⟩:=hq;obtain ⟨w6,q1,q2,q3,q4⟩:=fin t' b (some .ret) hgh hnb;exact ⟨_,w6,q1,false,rfl,⟨.ret,b,.inl rfl,hE,q2⟩,q3,q4⟩
  | exit id=>
   obtain ⟨t',b,hgh,hE,hnb⟩:=hq;obtain ⟨w6,q1,q2,q3,q4⟩:=fin t' b (some (.exit id)) hgh hnb;exact ⟨_,w6,q1,false,rfl,⟨.exit id,b,.inr ⟨id,rfl⟩,hE,q2⟩,q3,q4⟩
  | goto t=>exact hq.elim
  | panic c=>exact hq.elim
  | outgrown=>exact hq.elim
 have hcl:Jcl (fun w L R=>∃ c b,(c=.ret\/∃ id,c=.exit id)/\E c b/\JC X s.t a D l b (.loop (rec .done (some c))) w L R):=by
  rintro w w' L L' R R' ⟨c,b,h1,h2,h3⟩ k1 k2 k3 k4 k5;exact ⟨c,b,h1,h2,JC.cl _ _ _ _ _ _ h3 k1 k2 k3 k4 k5⟩
 have hbR:∀ x,X1.R x->w1.heap[x]? = w.heap[x]?:=fun x hx=>hbel.block x (h3.rd x hx).1
 have hS1:∀ x,S1 x + Sb x≠0->x < w.heap.size:=fun x hx=>by
  by_cases hxx:x < w.heap.size
  ·exact hxx
  ·exact absurd (hnew x (by omega)) hx
 have hcalls:=hc.2 l (fun i=>JC X s.t a D l (st i) (.loop (rec .ready none))) _ (fun _=>JC.cl) hcl hY w1 _ _ X1.R cvs gs S1 Sb
  (RC.keep hbR hargs fun x hx=>hbel.block x (hS1 x (by omega))) (RXs.keep hbR h2 fun x hx=>hbel.block x (hS1 x (by omega))) (ent_of hkl h4) (fun i v hv=>kφ_none (by rw [hkl];exact hv)) (fun i v hv=>kκ_none (by rw [hkl];exact hv)) (fun x=>by have:=h3.one x;rw [hsum];dsimp only at this ⊢;omega) (fun x hx=>by have:=hS1 x hx;omega)
  (fun x hx=>by
    have h7:=h3.rd x hx;rw [hsum];dsimp only at h7;exact ⟨by omega,by omega⟩) hJ0
 refine ⟨l,[{ target:=.collected D,args:=#[] }],w1,{ target:=.fn (.func gf) cvs.toArray,args:=#[.func (.yield l) #[] #[]] },w1,gf,_,w1,?_,?_,fun _ _=>trivial,hc.1 _ _,fun hd=>(by rw [Fw_depth] at hd;simp at hd),?_⟩
 ·have:=run_enterLoop_outer (P:=P) (w:=w) fn a.tmps ps assign body;rw [hl,hw1,hrec,hD];exact this
 ·simp only [rangeCall,resolve,Deferred.ofValue,hcv,Sem.run_pure,Array.empty_append];simp [Act.eval]
 ·have e0:(#[Value.func (.yield l) #[] #[]] ++ cvs.toArray)=(Value.func (.yield l) #[] #[] :: cvs).toArray:=by simp
  dsimp only;rw [e0];refine callsFw.2 (hcalls.mono ?_);rintro e w3 ⟨v,L',R',rfl,hJ⟩
  have main:∀ (b:List Sl) (pd:Option Code) (st':LoopState),st'≠.busy->JC X s.t a D l b (.loop (rec st' pd)) w3 L' R'->∃ w4,(Instr.endLoop l).run P w3=.ok pd w4 /\
   Sat X ⟨s.t,b⟩ { a with defers:=[{ target:=.collected D,args:=#[] }] ++ a.defers } w4:=by
   rintro b pd st' hst ⟨X',φ',κ',f',hX',hS,hR',hDR,hDh,hlh⟩;refine ⟨w3.putObj l (.loop (rec .exhausted pd)),by have:=run_endLoop (P:=P) hlh (by rw [hrec];exact hst);rw [hrec] at this ⊢;exact this,X',φ',κ',f',hX',?_⟩;have hS2:SatW X' φ' κ' f' Ct.z ⟨s.t,b⟩ a (w3.putObj l (.loop (rec .exhausted pd))):=hS.went (L':=Ct.z) ⟨rfl,rfl,rfl,by simp,fun x hx hL=>World.putObj_heap_other (fun e=>by subst e;simp at hL)⟩ (fun x=>by simp [Ct.z]) (fun x hx=>absurd rfl hx);refine hS2.refr hS2.tm ⟨?_,hS2.df.yd⟩;obtain ⟨d0,Ds,d1,d2,d3⟩:=hS2.df.df;obtain ⟨e0,Es,e1,e2,e3⟩:=h.df.df;have hDE:Ds=Es:=map_mark (by have:=d1.symm.trans e1;rw [hX'.dB,hX0.dB] at this;exact List.append_cancel_right this);subst hDE;have hdl:D≠l:=by omega
   refine ⟨d0,D :: Ds,by simp [d1],⟨List.nodup_cons.2 ⟨fun hm=>?_,d2.1⟩,fun hm=>?_,d2.2.2⟩,fun D' hD'=>?_⟩
   ·have:=(Array.getElem?_eq_some_iff.1 (e3 D hm).2.2).1;omega
   ·rw [hX'.mks,hmk] at hm;cases hm
   ·rcases List.mem_cons.1 hD' with rfl|hD'
    ·refine ⟨?_,hDR,?_⟩
     ·rw [hX'.dB,←hX0.dB];omega
     ·rw [World.putObj_heap_other hdl];exact hDh
    ·exact d3 D' hD'
  rcases hJ with hJ|⟨c,b,hc,hE,hJ⟩
  ·obtain ⟨w4,q1,q2⟩:=main _ _ _ (by simp) hJ;exact ⟨none,w4,q1,⟨_,done,q2⟩⟩
  ·obtain ⟨w4,q1,q2⟩:=main _ _ _ (by simp) hJ;refine ⟨some c,w4,q1,?_⟩;rcases hc with rfl|⟨id,rfl⟩
   ·exact wpIn_ret ⟨_,(stop b).1 hE,q2⟩
   ·exact wpIn_exit ⟨_,(stop b).2 id hE,q2⟩
theorem CP.RG {P:Program} {X:Cx} {s:AS} {Q:Exit->AS->Prop} {g:Operand} {ps:Array Nat} {assign body:Code} {gf:Nat} {cap al:List AV} {ks:List (Nat×Nat)} {bs:List Bx} {b1 bf:List Sl} {ys:List (List AV)}
 (hc:IC P gf al bs ys) (st:Nat->List Sl) (E:Code->List Sl->Prop) (hps:∀ y∈ys,y.length=ps.size)
 (round:∀ (i:Nat) (y:List AV),ys[i]? = some y->∀ (Xr:Cx) (l:Nat),Xr.ρ=some l->CP P Xr assign (fun e s1=>e=.normal/\nyA s1.b=true/\∀ Xb:Cx,Xb.ρ=some l->CP P Xb body (RdQ (st (i + 1)) E) s1) ⟨putL s.t ps.toList y,st i⟩)
 (done:Q .normal ⟨s.t,st ys.length⟩) (stop:∀ b,(E .ret b->Q .ret ⟨s.t,b⟩)/\∀ id,E (.exit id) b->Q (.exit id) ⟨s.t,b⟩)
 (hρ:X.ρ=none:=by assumption) (hmk:X.mks=true:=by assumption) (hg:aev s g=.fn gf cap:=by exact rfl) (hbd:bdC cap=false:=by exact rfl) (hks:ksA al cap bs.length=ks:=by exact rfl) (hp:PasC false ks [] s.b cap al b1:=by ((repeat' (first|exact PasC.nil|apply PasC.nil|apply PasC.cons|apply PasV.leaf rfl|apply PasV.nl|apply PasV.bp rfl|apply PasV.vp rfl|apply PasV.pz|exact VsM.nil|apply VsM.cons rfl|apply PasV.lend rfl rfl rfl|apply PasV.lend rfl rfl (ro_B _)|apply PasV.lend rfl rfl (ro_M _)|apply PasV.lend rfl rfl (ro_E _ _)|apply PasV.lend rfl rfl (ro_I _)|apply PasV.lend rfl rfl (by (simp only [rn,List.map_cons,List.map_nil];first|done|rfl))|apply PasV.lend rfl rfl (by assumption)|apply PasV.lsb rfl rfl rfl rfl (by (first|assumption|exact rfl))|apply PasV.mv rfl|apply PasV.hk rfl|apply PasV.ag|apply PasV.fn|exact PasV.fs|apply PasV.any|exact rfl));all_goals fail)) (hout:Out b1 ks bs bf:=by ((repeat' (first|exact ClsC.nil|apply ClsC.nl|apply ClsC.leaf rfl|apply ClsC.hd rfl|apply ClsC.ob rfl|apply ClsC.mo rfl|apply ClsC.mp rfl|apply ClsC.hp rfl|exact Out.nil|apply Out.cons rfl|apply Out.r rfl|apply Out.f rfl|apply ClsC.fn|apply ClsC.fz rfl (ro_B _)|apply ClsC.fz rfl (ro_M _)|apply ClsC.fz rfl (ro_E _ _)|apply ClsC.fz rfl rfl));all_goals fail)) (h0:Wks ⟨s.t,bf⟩ ⟨s.t,st 0⟩:=by ((refine ⟨?_,?_⟩<;>(try dsimp only)<;>(repeat' (first|exact Wk.nil|exact WkB.nil|apply Wk.same|apply Wk.de|apply Wk.nl|apply WkB.same|apply WkB.drop)));all_goals fail))
 (hny:∀ i,nyA (st i)=true:=by (intro i;exact rfl)):CP P X (.rangeFunc g ps assign body) Q s:=cp_range hc st E hρ hmk hg hbd hp hout h0 hps hny round done stop
def chS (b:List UInt8):List (List UInt8):=(List.range (b.length / 64)).map fun i=>(b.drop (64 * i)).take 64
abbrev bxB (b:List UInt8):Bx:=.c 22 [bs none b]
theorem wA9 {G G':Prop} (K:G') (h:G'->G:=by (intro kz;(with_reducible apply AP.k_any);first|exact AP.S kz|(refine AP.Y ?_;dsimp only;exact kz)|exact AP.A kz|exact AP.AB 0 kz|exact AP.AB 1 kz|exact AP.AL kz|exact AP.LB kz|exact AP.TB kz|exact AP.IX kz|exact AP.SF kz|exact AP.SV kz|exact AP.CV kz|exact AP.CO kz|exact AP.FV kz)):G:=h K
theorem blocks_ic (b:List UInt8) (hb:b.length<=100000000):IC prog 225 [.bp 0 0 0] [bxB b] ((chS b).map fun c=>[bs none c]):=by
 have hlen:((chS b).map fun c=>[bs none c]).length=b.length / 64:=by simp [chS]
 have hat:∀ i,i < b.length / 64->((chS b).map fun c=>[bs none c])[i]? = some [bs none ((b.drop (64 * i)).take 64)]:=fun i hi=>by simp [chS,hi]
 refine IC.N func225 ntmps225 ?_;intro X l J Jx hρ hyl hJ hJx hY;rw [hlen];generalize ((chS b).map fun c=>[bs none c])=ys at hat hY;refine NX ?_
 repeat' (first|((first|refine wA9 ?_|(refine GA ?_ ?_<;>intro hg)|refine wA6 ?_)<;>(try simp only [nx,q4,rn,fq,Nat.mul_one,Bool.and_true,Bool.and_false,Nat.reduceBEq,Nat.reduceAdd,Nat.reduceSub,BEq.rfl]))|refine wT2 ?_|with_reducible intro Q' hQ'|(refine GC ?_ ?_<;>intro hc)|simp only [laq])
 refine cp_loopS [3,4,5,6,7,8,9,10,11,12,13] (fun a:Nat=>b.length / 64 - a) (fun a=>a<=b.length / 64) (fun _=>[]) (fun a=>[(0,⟨0,bxB (b.drop (64 * a))⟩),(1,⟨0,.y (J a)⟩)]) 0 (Nat.zero_le _) (by exact Gh.W) ?_;intro i hi;refine ST0 ?_
 by_cases hlt:i < b.length / 64
 ·have hy:=hY i _ (hat i hlt);have hJi:=hJ i;have d1:decide ((64:Int)<=((List.drop (64 * i) b).length:Int))=true:=by simp;omega
  have hdd:List.take ((List.drop (64 * i) b).length - Int.toNat 64) (List.drop (Int.toNat 64) (List.drop (64 * i) b))=List.drop (64 * (i + 1)) b:=by
   rw [List.take_of_length_le (by simp;omega),List.drop_drop];congr 1
  repeat' (first|((first|refine wA9 ?_|(refine GA ?_ ?_<;>intro hg)|((with_reducible apply AP.k_any);refine AP.YI (k:=1) hy ?_ ?_)|refine wA6 ?_)<;>(try simp only [d1,nx,q4,rn,fq,Nat.mul_one,Bool.and_true,Bool.and_false,Nat.reduceBEq,Nat.reduceAdd,Nat.reduceSub,BEq.rfl]))|refine wT2 ?_|with_reducible intro Q' hQ'|(refine GC ?_ ?_<;>intro hc)|simp only [laq])
  ·simp only [hdd];exact ⟨i + 1,by omega,by omega,by exact Gh.W⟩
  ·exact ⟨by first|exact .inr rfl|exact .inl rfl,_,_,rfl,by first|exact .inl rfl|exact .inr rfl⟩
 ·obtain rfl:i=b.length / 64:=by omega
  have d1:decide ((64:Int)<=((List.drop (64 * (b.length / 64)) b).length:Int))=false:=by simp;omega
  repeat' (first|((first|refine wA9 ?_|(refine GA ?_ ?_<;>intro hg)|refine wA6 ?_)<;>(try simp only [d1,nx,q4,rn,fq,Nat.mul_one,Bool.and_true,Bool.and_false,Nat.reduceBEq,Nat.reduceAdd,Nat.reduceSub,BEq.rfl]))|refine wT2 ?_|with_reducible intro Q' hQ'|(refine GC ?_ ?_<;>intro hc)|simp only [laq])
  exact ⟨by first|exact .inr rfl|exact .inl rfl,_,_,rfl,by first|exact .inl rfl|exact .inr rfl⟩
theorem blocks_ac (b:List UInt8):AC prog 213 [bs none b] [] (fun v bs'=>v=.fn 225 [.bp 0 0 0]/\bs'=[bxB b]):=by
 refine AC.E func213 ntmps213 ?_;intros
 repeat' (first|((first|refine wA8 ?_|refine wA6 ?_)<;>(try simp only [nx,q4,rn,fq,Nat.mul_one,Bool.and_true,Bool.and_false,Nat.reduceBEq,Nat.reduceAdd,Nat.reduceSub,BEq.rfl]))|refine wT2 ?_|with_reducible intro Q' hQ'|(refine GC ?_ ?_<;>intro hc)|simp only [laq])
 (exact RetQ.A [(0,1)] (by exact ⟨rfl,rfl⟩))
