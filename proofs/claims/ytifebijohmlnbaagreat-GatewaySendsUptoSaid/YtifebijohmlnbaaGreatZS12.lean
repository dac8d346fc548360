/-
  Texts joined: G15.
-/
import Derived.Test.YtifebijohmlnbaaGreatZS1
import Derived.Test.YtifebijohmlnbaaGreatZS2
import Derived.Test.YtifebijohmlnbaaGreatZS3
import Derived.Test.YtifebijohmlnbaaGreatZS4
import Derived.Test.YtifebijohmlnbaaGreatZS5
import Derived.Test.YtifebijohmlnbaaGreatZS6
import Derived.Test.YtifebijohmlnbaaGreatZS7
import Derived.Test.YtifebijohmlnbaaGreatZS8
import Derived.Test.YtifebijohmlnbaaGreatZS9
import Derived.Test.YtifebijohmlnbaaGreatZS10
import Derived.Test.YtifebijohmlnbaaGreatZS11
namespace Go.Proofs.YtifebijohmlnbaaGreat
set_option linter.unusedVariables false
set_option linter.unusedSimpArgs false
open Go.RowKit
set_option maxRecDepth 100000
set_option maxHeartbeats 8000000
/-- the packet that asks for what a client waits for -/
def Gw.pq (x:Gw) (k:Nat) (s:Int):Pkt:=⟨8,cHead x.cfg,x.cfg.epoch,1,s,formM (x.msg k),List.replicate 32 0⟩
def Gw.asks (x:Gw) (root:List UInt8) (b:List UInt8):Prop:=∃ (k:Nat) (s:Int) (r:List UInt8),k < 4∧1≤s∧s≤1000000∧wGet x.wt k=some r∧b=headS (x.pq k s) ++ tagS root (x.pq k s)
theorem go_asks {x:Gw} {root:List UInt8}:∀ (who:List Int) (p:List (List UInt8)×Ends) (n:Int),0≤n→n + who.length≤1000000→p.2.fit n→p.2.root=root→p.2.who=8→p.2.boot=1→(∀ w∈who,∃ (k:Nat) (r:List UInt8),w=k∧k < 4∧wGet x.wt k=some r) →
 (∀ b∈p.1,x.asks root b)→∀ b∈(who.foldl x.go p).1,x.asks root b
 | [],p,n,_,_,_,_,_,_,_,h=>h
 | w :: who,p,n,hn,hl,hf,hr,hw,hb,hm,h=>by
  rw [List.length_cons] at hl;have h2:=hf (cHead x.cfg,x.cfg.epoch);refine go_asks who (x.go p w) (n + 1) (by omega) (by omega) (fun s=>?_) hr hw hb (fun v hv=>hm v (by simp [hv])) fun b hb2=>?_
  ·have h1:=hf s
   show 0≤got s (puts _ p.2.sent _) 0∧got s (puts _ p.2.sent _) 0≤n + 1
   rw [got_puts];split<;>omega
  ·rcases List.mem_append.1 hb2 with hb2|hb2
   ·exact h b hb2
   ·obtain ⟨k,r,rfl,hk,hg⟩:=hm w (by simp);have e:b=p.2.out (cHead x.cfg) x.cfg.epoch (formM (x.msg k)):=by simpa using hb2
    refine ⟨k,got (cHead x.cfg,x.cfg.epoch) p.2.sent 0 + 1,r,hk,by omega,by omega,hg,?_⟩;rw [e];unfold Ends.out
    have ep:p.2.pkt (cHead x.cfg) x.cfg.epoch (formM (x.msg k))=x.pq k (got (cHead x.cfg,x.cfg.epoch) p.2.sent 0 + 1):=by
     unfold Ends.pkt Gw.pq;rw [hw,hb]
    rw [ep,hr]
theorem asks_same {x y:Gw} {root b:List UInt8} (h:x.asks root b) (h1:y.cfg=x.cfg) (h2:y.wt=x.wt) (h3:y.ask=x.ask):y.asks root b:=by
 obtain ⟨k,s,r,a1,a2,a3,a4,a5⟩:=h;have e:y.pq k s=x.pq k s:=by unfold Gw.pq Gw.msg;rw [h1,h2,h3]
 exact ⟨k,s,r,a1,a2,a3,by rw [h2];exact a4,by rw [e];exact a5⟩
theorem sends_asks {x:Gw} {n:Nat} {root:List UInt8} (h:x.ok n) (hn:n≤900000) (hr:x.ends.root=root) {who:List Int} (hl:who.length≤4) (hw:∀ w∈who,(wGet x.wt w).isSome=true):∀ b∈(x.sends who).1,(x.sends who).2.asks root b:=fun b hb=>by
 have h1:=go_asks (x:=x) (root:=root) who ([],x.ends) n (by omega) (by omega) h.f hr h.g.w h.g.b (fun w hw2=>by
  have h2:=hw w hw2
  cases hg:wGet x.wt w with
  | none=>rw [hg] at h2;cases h2
  | some r=>
   have hc:=(h.w _ (wGet_mem hg)).1;dsimp only at hc;obtain ⟨k,rfl⟩:∃ k:Nat,w=k:=⟨w.toNat,by omega⟩;exact ⟨k,r,rfl,by omega,hg⟩) (fun b hb=>by cases hb) b hb
 exact asks_same h1 rfl rfl rfl
theorem sends_root (x:Gw) {n:Nat} (h:x.ok n) (who:List Int):(x.sends who).2.ends.root=x.ends.root:=(go_keep x who ([],x.ends) n (by omega) h.f).2.1
theorem tick_asks {x:Gw} {n:Nat} {root:List UInt8} (h:x.ok n) (hn:n≤900000) (hr:x.ends.root=root):∀ b∈x.tick.1,x.tick.2.asks root b:=
 sends_asks h hn hr (by show x.keys.length≤4;unfold Gw.keys;rw [List.length_map];exact h.l) fun w hw=>by
  obtain ⟨p,hp,rfl⟩:=List.mem_map.1 hw;obtain ⟨b,hb⟩:=wGet_in hp;rw [hb];rfl
/-- what an act sends; who waits behind it -/
structure Sn (root:List UInt8) (s:Gs) (a:Ga):Prop where
 r:(s.act a).2.g.ends.root=root
 k:∀ b∈(s.act a).1.2,(s.act a).2.g.asks root b
 l:(s.act a).1.2.length≤(s.act a).2.g.wt.length
 t:a.kind=6→(s.act a).1.2.length=(s.act a).2.g.wt.length
theorem sub_cases {x:Gw} (c:Int) (b:List UInt8):((¬ (0≤c∧c < 4∧wGet x.wt c=none∧b.length≤1024))∧(x.submit c b).1.2.1=[]∧(x.submit c b).2=x) ∨
 ∃ k:Nat,k < 4∧c=k∧wGet x.wt k=none∧b.length≤1024∧(x.submit c b).1.2.1=((x.take k b).sends [(k:Int)]).1∧(x.submit c b).2=((x.take k b).sends [(k:Int)]).2:=by
 unfold Gw.submit;split
 ·exact .inl ⟨by omega,rfl,rfl⟩
 split
 ·exact .inl ⟨by omega,rfl,rfl⟩
 split
 ·rename_i hw;exact .inl ⟨fun h=>(by rw [h.2.2.1] at hw;cases hw),rfl,rfl⟩
 rename_i h1 h2 h3
 obtain ⟨k,rfl⟩:∃ k:Nat,c=k:=⟨c.toNat,by omega⟩
 have hw:wGet x.wt k=none:=by
  cases hw:wGet x.wt k with
  | none=>rfl
  | some b0=>rw [hw] at h3;exact absurd rfl h3
 exact .inr ⟨k,by omega,rfl,hw,by omega,rfl,rfl⟩
theorem Gs.ok.sn {root:List UInt8} {s:Gs} {n:Nat} (h:s.ok root n) (hn:n≤900000 - 1) (hr:s.g.ends.root=root) (a:Ga):Sn root s a:=by
 by_cases h0:a.kind=0∨a.kind=1
 ·have e:s.act a=(([],(s.g.submit a.client a.body).1.2.1),⟨(s.g.submit a.client a.body).2,s.p⟩):=if_pos h0;have ht:a.kind≠6:=by omega
  rcases sub_cases (x:=s.g) a.client a.body with ⟨_,e1,e2⟩|⟨k,hk,_,hw,hb,e1,e2⟩
  ·rw [e1,e2] at e;exact ⟨by rw [e];exact hr,by rw [e];exact fun b hb=>(by cases hb),by rw [e];exact Nat.zero_le _,fun h6=>absurd h6 ht⟩
  ·rw [e1,e2] at e;have ho:=(h.g.take hk hb hw).1;have hwt:((s.g.take k a.body).sends [(k:Int)]).2.wt=s.g.wt ++ [((k:Int),a.body)]:=rfl;have hl:=(ho.sends [(k:Int)]).2.2.2.2
   have hk2:=sends_asks ho (by omega) hr (who:=[(k:Int)]) (by simp) fun w hw2=>by
    have:w=(k:Int):=by simpa using hw2
    subst this
    show (wGet (s.g.wt ++ [((k:Int),a.body)]) (k:Int)).isSome=true
    rw [wGet_app hw,if_pos rfl];rfl
   exact ⟨by rw [e];exact (sends_root _ ho _).trans hr,by rw [e];exact hk2,by rw [e];dsimp only;rw [hl,hwt];simp,fun h6=>absurd h6 ht⟩
 by_cases h2:a.kind=2∨a.kind=3∨a.kind=4∨a.kind=5
 ·have e:s.act a=(((s.g.get (pkS s.p a).1).1.1,(s.g.get (pkS s.p a).1).1.2.1),⟨(s.g.get (pkS s.p a).1).2,(pkS s.p a).2⟩):=(if_neg h0).trans (if_pos h2);have ht:a.kind≠6:=by omega
  have key:(s.g.get (pkS s.p a).1).2.ends.root=root∧(∀ b∈(s.g.get (pkS s.p a).1).1.2.1,(s.g.get (pkS s.p a).1).2.asks root b)∧(s.g.get (pkS s.p a).1).1.2.1.length≤(s.g.get (pkS s.p a).1).2.wt.length:=by
   have hg:=h.g;clear e;generalize s.g=x at *;generalize (pkS s.p a).1=b;have h1:=hg.gotb b;have r1:({ x with ends:=(x.ends.get b).2 }:Gw).ends.root=root:=(get_keep x.ends b).1.trans hr;have nil:∀ y:Gw,y.ends.root=root→y.ends.root=root∧(∀ b∈([]:List (List UInt8)),y.asks root b)∧([]:List (List UInt8)).length≤y.wt.length:=fun y hy=>⟨hy,fun b hb=>(by cases hb),Nat.zero_le _⟩
   unfold Gw.get;dsimp only;split
   ·exact nil _ r1
   split
   ·exact nil _ r1
   generalize ({ x with ends:=(x.ends.get b).2 }:Gw)=y at *;generalize (parseM (x.ends.get b).1.1.body).1=m;generalize (x.ends.get b).1.1=p;unfold Gw.come;split
   ·unfold Gw.onc;split
    ·exact nil _ r1
    rename_i hc
    split
    ·exact nil _ r1
    have hm:mayC m.cfg=true:=by
     cases hmc:mayC m.cfg with
     | true=>rfl
     | false=>exact absurd (.inr hmc) hc
    have hy:=h1.cfg hm;obtain ⟨_,_,a3,_,a5⟩:=hy.tick;exact ⟨(sends_root _ hy _).trans r1,tick_asks hy (by omega) r1,by dsimp only;rw [a5,a3];exact Nat.le_refl _⟩
   split
   ·unfold Gw.onr;split
    ·exact nil _ r1
    split
    ·exact nil _ r1
    exact nil _ r1
   ·exact nil _ r1
  exact ⟨by rw [e];exact key.1,by rw [e];exact key.2.1,by rw [e];exact key.2.2,fun h6=>absurd h6 ht⟩
 by_cases h6:a.kind=6
 ·have e:s.act a=(([],s.g.tick.1),⟨s.g.tick.2,s.p⟩):=(if_neg h0).trans ((if_neg h2).trans (if_pos h6));obtain ⟨_,_,a3,_,a5⟩:=h.g.tick;have e5:s.g.tick.1.length=s.g.tick.2.wt.length:=by rw [a5,a3]
  exact ⟨by rw [e];exact (sends_root _ h.g _).trans hr,by rw [e];exact tick_asks h.g (by omega) hr,by rw [e];exact Nat.le_of_eq e5,fun _=>by rw [e];exact e5⟩
 ·have e:s.act a=(([],[]),s):=(if_neg h0).trans ((if_neg h2).trans (if_neg h6));exact ⟨by rw [e];exact hr,by rw [e];exact fun b hb=>(by cases hb),by rw [e];exact Nat.zero_le _,fun h=>absurd h h6⟩
/-- the bodies that are waited for -/
def Bod (x:Gw) (bd:Nat→List UInt8):Prop:=∀ (k:Nat) (r:List UInt8),k < 4→wGet x.wt k=some r→bd k=r
def updB (f:Nat→List UInt8) (k:Nat) (v:List UInt8):Nat→List UInt8:=fun i=>if i=k then v else f i
/-- the bodies behind what the law notes ahead of an act -/
def Gw.note (x:Gw) (bd:Nat→List UInt8) (a:Ga):Nat→List UInt8:=
 if (a.kind=0∨a.kind=1)∧0≤a.client∧a.client < 4∧wGet x.wt a.client=none∧a.body.length≤1024 then updB bd a.client.toNat a.body else bd
theorem Bod.act {root:List UInt8} {s:Gs} {n:Nat} {bd:Nat→List UInt8} (h:Bod s.g bd) (hs:s.ok root n) (a:Ga):Bod (s.act a).2.g (s.g.note bd a):=by
 unfold Gw.note
 by_cases h0:a.kind=0∨a.kind=1
 ·have e:s.act a=(([],(s.g.submit a.client a.body).1.2.1),⟨(s.g.submit a.client a.body).2,s.p⟩):=if_pos h0;rw [e];rcases sub_cases (x:=s.g) a.client a.body with ⟨hno,_,e2⟩|⟨k,hk,hc,hw,hb,_,e2⟩
  ·rw [if_neg fun h=>hno h.2,e2];exact h
  ·rw [if_pos ⟨h0,by omega,by omega,by rw [hc];exact hw,hb⟩,e2,hc];intro i r hi hr;have hr2:wGet (s.g.wt ++ [((k:Int),a.body)]) (i:Int)=some r:=hr;rw [wGet_app hw] at hr2
   show updB bd k a.body i=r
   unfold updB
   by_cases hik:i=k
   ·subst hik;rw [if_pos rfl] at hr2;rw [if_pos rfl];injection hr2
   ·rw [if_neg (by omega)] at hr2;rw [if_neg hik];exact h i r hi hr2
 ·rw [if_neg fun h=>h0 h.1]
  have key:∀ (k:Nat) r,wGet (s.act a).2.g.wt k=some r→wGet s.g.wt k=some r:=by
   unfold Gs.act;rw [if_neg h0];split
   ·dsimp only;have hg:=hs.g;generalize s.g=x at *;generalize (pkS s.p a).1=b;have h1:=hg.gotb b;unfold Gw.get;dsimp only;split
    ·exact fun _ _ h=>h
    split
    ·exact fun _ _ h=>h
    have ew:({ x with ends:=(x.ends.get b).2 }:Gw).wt=x.wt:=rfl;generalize ({ x with ends:=(x.ends.get b).2 }:Gw)=y at *;generalize (parseM (x.ends.get b).1.1.body).1=m;generalize (x.ends.get b).1.1=p;rw [←ew];unfold Gw.come;split
    ·unfold Gw.onc;split
     ·exact fun _ _ h=>h
     split
     ·exact fun _ _ h=>h
     ·exact fun _ _ h=>h
    split
    ·unfold Gw.onr;split
     ·exact fun _ _ h=>h
     split
     ·exact fun _ _ h=>h
     ·intro k r hk;have hk2:wGet (wTake y.wt m.client) (k:Int)=some r:=hk;rw [wGet_take h1.nd] at hk2;split at hk2
      ·cases hk2
      ·exact hk2
    ·exact fun _ _ h=>h
   split
   ·exact fun _ _ h=>h
   ·exact fun _ _ h=>h
  exact fun k r hk hr=>h k r hk (key k r hr)
/-- such a packet is read as it was written -/
theorem asks_read {x:Gw} {n:Nat} {root b:List UInt8} (h:x.ok n) (hn:n≤900000) (hb:x.asks root b):∃ (k:Nat) (s:Int) (r:List UInt8),k < 4∧wGet x.wt k=some r∧1≤x.ask k∧b.length≤60000 ∧
 parseP b=({ x.pq k s with tag:=tagS root (x.pq k s) },0)∧parseM (formM (x.msg k))=(x.msg k,0)∧(formM (x.msg k)).length≤50000∧r.length≤1024:=by
 obtain ⟨k,s,r,hk,hs1,hs2,hw,rfl⟩:=hb;have hf:=h.fine (wGet_mem hw);dsimp only at hf;obtain ⟨c1,c2⟩:=mayC_head h.g.c;obtain ⟨c3,c4,_,_⟩:=mayC_of h.g.c
 have hlen:(formM (x.msg k)).length≤50000:=by
  have hb:=hf.b;have e:formM (x.msg k)=1 :: (numS [(k:Int),x.ask (k:Int).toNat] ++ (putS ((wGet x.wt k).getD []).length 4 ++ (wGet x.wt k).getD [])):=rfl;rw [e];simp only [List.length_cons,List.length_append,numS_length,putS_length,List.length_nil];omega
 have hh:0≤cHead x.cfg∧cHead x.cfg≤9:=by
  simp only [whoS,Bool.or_eq_true,Bool.and_eq_true,decide_eq_true_eq,beq_iff_eq] at c1;omega
 have hm:mayP (x.pq k s)=true:=by
  show (whoS 8 && whoS (cHead x.cfg) && !((8:Int) == cHead x.cfg) && decide (1≤x.cfg.epoch) && decide ((0:Int)≤1) && decide (1≤s))=true
  rw [c1,decide_eq_true c3,decide_eq_true hs1];simp [whoS,Ne.symm c2]
 have hrg:(x.pq k s).rg:=⟨⟨by unfold I64 Gw.pq;simp only;omega,by unfold I64 Gw.pq;simp only;omega,by unfold I64 Gw.pq;simp only;omega,by unfold I64 Gw.pq;simp only;omega,by unfold I64 Gw.pq;simp only;omega⟩,Nat.le_trans hlen (by omega)⟩;have ha:=h.a k;have hi:=hf.i
 have hrn:rng (x.msg k):=by
  have z:I64 0:=by unfold I64;omega
  refine ⟨⟨?_,?_,z,z,z,z,z⟩,⟨z,fun x hx=>by cases hx⟩,fun e he=>by cases he⟩
  ·show I64 (k:Int);unfold I64;omega
  ·show I64 (x.ask (k:Int).toNat);unfold I64
   rw [show (k:Int).toNat=k from rfl];omega
 have hr:=(h.w _ (wGet_mem hw)).2.1;refine ⟨k,s,r,hk,hw,hi,?_,parse_tagged hm hrg (tagS_len _ _),parse_form hf.may hrn,hlen,hr⟩;rw [List.length_append,headS_len,tagS_len]
 show 44 + (formM (x.msg k)).length + 32≤_
 omega
end Go.Proofs.YtifebijohmlnbaaGreat
