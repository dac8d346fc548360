/-
  Texts joined: G6, G7.
-/
import Derived.Test.YtifebijohmlnbaaGreatZS1
import Derived.Test.YtifebijohmlnbaaGreatZS2
import Derived.Test.YtifebijohmlnbaaGreatZS3
import Derived.Test.YtifebijohmlnbaaGreatZS4
import Derived.Test.YtifebijohmlnbaaGreatZS5
import Derived.Test.YtifebijohmlnbaaGreatZS6
import Derived.Test.YtifebijohmlnbaaGreatZS7
namespace Go.Proofs.YtifebijohmlnbaaGreat
set_option linter.unusedVariables false
set_option linter.unusedSimpArgs false
open Go.RowKit
set_option maxRecDepth 100000
set_option maxHeartbeats 8000000
theorem gsub_ac (x:Gw) (n:Nat) (h:x.ok n) (hn:n≤100000) (c:Int) (b:List UInt8) (hb:b.length≤100000000):AC Tryz.prog 14 [.bp 0 0 0,I c,bs none b] [gB x] (fun v bs'=>v=.tu [I (x.submit c b).1.1,bss none (x.submit c b).1.2.1,I (x.submit c b).1.2.2]∧bs'=[gB (x.submit c b).2]):=by
 by_cases h1:c < 0∨4≤c
 ·exact gsub_arg x c b h1
 ·by_cases h2:1024 < b.length
  ·exact gsub_long x c b h1 h2 hb
  ·cases hw:wGet x.wt c with
   | some b0=>exact gsub_busy x c b b0 h1 h2 hw
   | none=>
    obtain ⟨k,rfl⟩:∃ k:Nat,c=k:=⟨c.toNat,by omega⟩;have h3:=gsub_ok x n h hn k (by omega) b (by omega) hw (h.room (by omega) hw) (h.take (by omega) (by omega) hw).2
    have e:x.submit k b=(((x.take k b).ask k,((x.take k b).sends [(k:Int)]).1,0),((x.take k b).sends [(k:Int)]).2):=by
     unfold Gw.submit;rw [if_neg h1,if_neg h2,if_neg (by rw [hw];simp)];rfl
    rw [e];have e2:(x.take k b).ask k=x.ask k + 1:=if_pos rfl;rw [e2];exact h3
theorem Gw.ok.submit {x:Gw} {n:Nat} (h:x.ok n) (c:Int) (b:List UInt8):(x.submit c b).2.ok (n + 2)∧(x.submit c b).2.cfg=x.cfg:=by
 unfold Gw.submit;split
 ·exact ⟨h.up (by omega),rfl⟩
 split
 ·exact ⟨h.up (by omega),rfl⟩
 split
 ·exact ⟨h.up (by omega),rfl⟩
 rename_i h1 h2 h3
 obtain ⟨k,rfl⟩:∃ k:Nat,c=k:=⟨c.toNat,by omega⟩
 have hw:wGet x.wt k=none:=by
  cases hw:wGet x.wt k with
  | none=>rfl
  | some b0=>rw [hw] at h3;exact absurd rfl h3
 have a0:=(h.take (k:=k) (by omega) (b:=b) (by omega) hw).1;obtain ⟨a1,a2,_⟩:=a0.sends [(k:Int)];exact ⟨a1,a2.trans rfl⟩
theorem Gw.ok.wTake {x:Gw} {n:Nat} (h:x.ok n) (k:Int):({ x with wt:=wTake x.wt k }:Gw).ok n:=by
 have hs:(Go.Proofs.YtifebijohmlnbaaGreat.wTake x.wt k).Sublist x.wt:=by
  unfold Go.Proofs.YtifebijohmlnbaaGreat.wTake;split
  ·exact List.eraseIdx_sublist ..
  ·exact List.Sublist.refl _
 exact ⟨⟨h.g.c,h.g.r,h.g.w,h.g.b⟩,h.f,(hs.map (·.1)).nodup h.nd,Nat.le_trans hs.length_le h.l,fun p hp=>h.w p (hs.subset hp),h.a,h.s⟩
theorem Gw.ok.get {x:Gw} {n:Nat} (h:x.ok n) (b:List UInt8):(x.get b).2.ok (n + 4)∧(((x.get b).2.cfg=x.cfg)∨(x.cfg.epoch < (x.get b).2.cfg.epoch∧(x.get b).1.2.1.length=x.wt.length)):=by
 have h1:=h.gotb b;have hcfg:({ x with ends:=(x.ends.get b).2 }:Gw).cfg=x.cfg:=rfl;have hwt:({ x with ends:=(x.ends.get b).2 }:Gw).wt=x.wt:=rfl;unfold Gw.get;dsimp only;split
 ·exact ⟨h1.up (by omega),.inl rfl⟩
 split
 ·exact ⟨h1.up (by omega),.inl rfl⟩
 generalize ({ x with ends:=(x.ends.get b).2 }:Gw)=y at *;generalize (parseM (x.ends.get b).1.1.body).1=m;generalize (x.ends.get b).1.1=p;unfold Gw.come;split
 ·unfold Gw.onc;split
  ·exact ⟨h1.up (by omega),.inl hcfg⟩
  rename_i hc
  split
  ·exact ⟨h1.up (by omega),.inl hcfg⟩
  rename_i he
  have hm:mayC m.cfg=true:=by
   cases hmc:mayC m.cfg with
   | true=>rfl
   | false=>exact absurd (.inr hmc) hc
  obtain ⟨a1,a2,_,_,a5⟩:=(h1.cfg hm).tick;refine ⟨a1,.inr ⟨?_,a5.trans (congrArg List.length hwt)⟩⟩
  show x.cfg.epoch < ({ y with cfg:=m.cfg }:Gw).tick.2.cfg.epoch
  rw [a2,←hcfg]
  show y.cfg.epoch < m.cfg.epoch
  omega
 split
 ·unfold Gw.onr;split
  ·exact ⟨h1.up (by omega),.inl hcfg⟩
  split
  ·exact ⟨h1.up (by omega),.inl hcfg⟩
  exact ⟨(h1.wTake _).up (by omega),.inl hcfg⟩
 ·exact ⟨h1.up (by omega),.inl hcfg⟩
theorem De.fit.up {root:List UInt8} {y:De} {n m:Nat} (h:De.fit root y n) (hm:n≤m):De.fit root y m:=⟨h.r,Nat.le_trans h.l hm,fun s=>by have:=h.a s;omega⟩
theorem De.fit.put {root:List UInt8} {y:De} {n:Nat} (h:De.fit root y n) (s:Sd) (v:Int×Dw) (hv:0≤v.1∧v.1≤n + 1):De.fit root (y.put s v) (n + 1):=by
 refine ⟨h.r,?_,fun t=>?_⟩
 ·have:=(puts_len (y:=y) s v).1;have:=h.l
  show (puts s y.l v).length≤_
  omega
 ·have:=h.a t
  show 0≤(got t (puts s y.l v) (0,Dw.new)).1∧(got t (puts s y.l v) (0,Dw.new)).1≤((n + 1:Nat):Int)
  rw [got_puts];split
  ·omega
  ·unfold De.at at this;omega
theorem De.fit.send {root:List UInt8} {y:De} {n:Nat} (h:De.fit root y n) (to ep:Int) (b:List UInt8):De.fit root (y.send to ep b).2 (n + 1):=by
 have h1:=h.a (to,ep);unfold De.send;split
 ·exact h.put _ _ (by dsimp only;omega)
 ·exact h.put _ _ (by omega)
theorem Prs.up {root:List UInt8} {L:List De} {n m:Nat} (h:Prs root L n) (hm:n≤m):Prs root L m:=⟨h.len,fun y hy=>(h.f y hy).up hm⟩
theorem Prs.pk {root:List UInt8} {L:List De} {n:Nat} (h:Prs root L n) (a:Ga):Prs root (pkS L a).2 (n + 1):=by
 unfold pkS;split
 ·exact h.up (by omega)
 split
 ·rename_i y hy
  refine ⟨by rw [List.length_set];exact h.len,fun z hz=>?_⟩;rcases List.mem_or_eq_of_mem_set hz with hz|rfl
  ·exact (h.f z hz).up (by omega)
  ·exact (h.f y (List.mem_of_getElem? hy)).send _ _ _
 ·exact h.up (by omega)
theorem prs_fit (root:List UInt8):Prs root (prs root 10) 0:=by
 refine ⟨prs_len root 10,fun y hy=>?_⟩;unfold prs at hy;obtain ⟨i,_,rfl⟩:=List.mem_map.1 hy;exact ⟨rfl,Nat.le_refl _,fun s=>⟨Int.le_refl _,Int.le_refl _⟩⟩
theorem Ga.fine.form2 {a:Ga} (h:a.fine):(formM a.m).length≤20001:=by
 have h1:=h.mb;have h2:=h.e;have h3:=h.mm;have h4:=waE_form a.m.entries
 have h5:(fieldF a.m).length≤20000:=by
  unfold fieldF;split
  ·simp only [askF,List.length_append,numS_length,putS_length,List.length_cons,List.length_nil];omega
  ·simp only [entF,List.length_append,numS_length,List.length_cons,List.length_nil];omega
  ·simp only [numS_length,List.length_cons,List.length_nil];omega
  ·rw [configF_length];omega
  ·simp only [numS_length,List.length_cons,List.length_nil];omega
  ·simp only [askF,List.length_append,numS_length,putS_length,List.length_cons,List.length_nil];omega
  ·simp
 show (a.m.kind :: fieldF a.m).length≤_
 rw [List.length_cons];omega
theorem dsend_len (y:De) (to ep:Int) (b:List UInt8):(y.send to ep b).1.1.length≤76 + b.length:=by
 unfold De.send;split
 ·show (headS (y.pkt to ep b) ++ tagS y.root (y.pkt to ep b)).length≤_
  rw [List.length_append,headS_len,tagS_len]
  show 44 + b.length + 32≤_
  omega
 ·exact Nat.zero_le _
theorem pk_len (L:List De) {a:Ga} (h:a.fine):(pkS L a).1.length≤60000:=by
 unfold pkS;split
 ·exact Nat.le_trans h.b (by omega)
 split
 ·exact Nat.le_trans (dsend_len ..) (by have:=h.form2;omega)
 ·exact Nat.zero_le _
/-- what a gateway and its others do by an act -/
structure Gs where
 g:Gw
 p:List De
def Gs.act (s:Gs) (a:Ga):(List An×List (List UInt8))×Gs:=
 if a.kind=0∨a.kind=1 then (([],(s.g.submit a.client a.body).1.2.1),⟨(s.g.submit a.client a.body).2,s.p⟩)
 else if a.kind=2∨a.kind=3∨a.kind=4∨a.kind=5 then (((s.g.get (pkS s.p a).1).1.1,(s.g.get (pkS s.p a).1).1.2.1),⟨(s.g.get (pkS s.p a).1).2,(pkS s.p a).2⟩)
 else if a.kind=6 then (([],s.g.tick.1),⟨s.g.tick.2,s.p⟩) else (([],[]),s)
structure Gs.ok (root:List UInt8) (s:Gs) (n:Nat):Prop where
 g:s.g.ok n
 p:Prs root s.p n
theorem Gs.ok.act {root:List UInt8} {s:Gs} {n:Nat} (h:s.ok root n) (a:Ga):(s.act a).2.ok root (n + 4)∧((s.act a).2.g.cfg=s.g.cfg∨(s.g.cfg.epoch < (s.act a).2.g.cfg.epoch∧(s.act a).1.2.length=s.g.wt.length)):=by
 unfold Gs.act;split
 ·obtain ⟨a1,a2⟩:=h.g.submit a.client a.body;exact ⟨⟨a1.up (by omega),h.p.up (by omega)⟩,.inl a2⟩
 split
 ·obtain ⟨a1,a2⟩:=h.g.get (pkS s.p a).1;exact ⟨⟨a1,(h.p.pk a).up (by omega)⟩,a2⟩
 split
 ·obtain ⟨a1,a2,_⟩:=h.g.tick;exact ⟨⟨a1,h.p.up (by omega)⟩,.inl a2⟩
 ·exact ⟨⟨h.g.up (by omega),h.p.up (by omega)⟩,.inl rfl⟩
end Go.Proofs.YtifebijohmlnbaaGreat
