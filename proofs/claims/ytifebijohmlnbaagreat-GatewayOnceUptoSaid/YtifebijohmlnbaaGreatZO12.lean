/-
  Texts joined: G14.
-/
import Derived.Test.YtifebijohmlnbaaGreatZO1
import Derived.Test.YtifebijohmlnbaaGreatZO2
import Derived.Test.YtifebijohmlnbaaGreatZO3
import Derived.Test.YtifebijohmlnbaaGreatZO4
import Derived.Test.YtifebijohmlnbaaGreatZO5
import Derived.Test.YtifebijohmlnbaaGreatZO6
import Derived.Test.YtifebijohmlnbaaGreatZO7
import Derived.Test.YtifebijohmlnbaaGreatZO8
import Derived.Test.YtifebijohmlnbaaGreatZO9
import Derived.Test.YtifebijohmlnbaaGreatZO10
import Derived.Test.YtifebijohmlnbaaGreatZO11
namespace Go.Proofs.YtifebijohmlnbaaGreat
set_option linter.unusedVariables false
set_option linter.unusedSimpArgs false
open Go.RowKit
set_option maxRecDepth 100000
set_option maxHeartbeats 8000000
abbrev t4:TypeId:=45
theorem once_big (root:List UInt8) (nodes:Int) (L:List Ga) (haw:AC Tryz.prog 13 [] [] (fun v bs'=>v=B true∧bs'=[])) (hl:L.length≤100000000) (hs:∀ a∈L,a.small) (h:100 < root.length∨nodes < 1∨5 < nodes∨great27 L=true):AC Tryz.prog 4 [bs none root,I nodes,gaS L] [] (fun v bs'=>v=B true∧bs'=[]):=by
 have g:=great27_ac L hl hs
 by_cases h1:100 < root.length
 ·have q1:decide ((100:Int) < (root.length:Int))=true:=by simp;omega
  refine AC.N Tryz.func4 Tryz.ntmps4 ?_;intro X hρ hmks;refine NX ?_
  repeat' (first|((first|((with_reducible apply AP.k_any);first|refine AP.ST ?_|(refine AP.Y ?_;dsimp only)|refine AP.G (fun hg=>?_) (fun hg=>?_)|(refine AP.V (fun c hnil=>?_);simp only [nz])|refine AP.PF ?_)|((with_reducible apply DW.k_any);first|refine DW.ST ?_))<;>(try simp only [q1,nq,Nat.reduceBEq,Nat.reduceAdd,Nat.reduceSub]))|refine CP.TL ?_|((with_reducible apply CP.k_drw);refine cp_drwX fun Q' hQ'=>?_)|((with_reducible apply CP.k_reg);refine cp_regG fun Q' hQ'=>?_)|((with_reducible apply CP.k_cond);refine cp_cond rfl (fun hc=>?_) (fun hc=>?_))|(simp only [List.append_eq,List.cons_append,List.nil_append]))
  (exact RetQ.A [] (by exact ⟨rfl,rfl⟩))
 ·have q1:decide ((100:Int) < (root.length:Int))=false:=by simp;omega
  by_cases h2:nodes < 1
  ·have q2:decide (nodes < 1)=true:=decide_eq_true h2;refine AC.N Tryz.func4 Tryz.ntmps4 ?_;intro X hρ hmks;refine NX ?_
   repeat' (first|((first|((with_reducible apply AP.k_any);first|refine AP.ST ?_|(refine AP.Y ?_;dsimp only)|refine AP.G (fun hg=>?_) (fun hg=>?_)|(refine AP.V (fun c hnil=>?_);simp only [nz])|refine AP.PF ?_)|((with_reducible apply DW.k_any);first|refine DW.ST ?_))<;>(try simp only [q1,q2,nq,Nat.reduceBEq,Nat.reduceAdd,Nat.reduceSub]))|refine CP.TL ?_|((with_reducible apply CP.k_drw);refine cp_drwX fun Q' hQ'=>?_)|((with_reducible apply CP.k_reg);refine cp_regG fun Q' hQ'=>?_)|((with_reducible apply CP.k_cond);refine cp_cond rfl (fun hc=>?_) (fun hc=>?_))|(simp only [List.append_eq,List.cons_append,List.nil_append]))
   (exact RetQ.A [] (by exact ⟨rfl,rfl⟩))
  ·have q2:decide (nodes < 1)=false:=decide_eq_false h2
   by_cases h3:5 < nodes
   ·have q3:decide (5 < nodes)=true:=decide_eq_true h3;refine AC.N Tryz.func4 Tryz.ntmps4 ?_;intro X hρ hmks;refine NX ?_
    repeat' (first|((first|((with_reducible apply AP.k_any);first|refine AP.ST ?_|(refine AP.Y ?_;dsimp only)|refine AP.G (fun hg=>?_) (fun hg=>?_)|(refine AP.V (fun c hnil=>?_);simp only [nz])|refine AP.PF ?_)|((with_reducible apply DW.k_any);first|refine DW.ST ?_))<;>(try simp only [q1,q2,q3,nq,Nat.reduceBEq,Nat.reduceAdd,Nat.reduceSub]))|refine CP.TL ?_|((with_reducible apply CP.k_drw);refine cp_drwX fun Q' hQ'=>?_)|((with_reducible apply CP.k_reg);refine cp_regG fun Q' hQ'=>?_)|((with_reducible apply CP.k_cond);refine cp_cond rfl (fun hc=>?_) (fun hc=>?_))|(simp only [List.append_eq,List.cons_append,List.nil_append]))
    (exact RetQ.A [] (by exact ⟨rfl,rfl⟩))
   ·have q3:decide (5 < nodes)=false:=decide_eq_false h3
    have hg:great27 L=true:=by
     rcases h with h|h|h|h
     ·exact absurd h h1
     ·exact absurd h h2
     ·exact absurd h h3
     ·exact h
    rw [hg] at g;refine AC.N Tryz.func4 Tryz.ntmps4 ?_;intro X hρ hmks;refine NX ?_
    repeat' (first|((first|((with_reducible apply AP.k_any);first|refine AP.ST ?_|(refine AP.Y ?_;dsimp only)|refine AP.G (fun hg=>?_) (fun hg=>?_)|(refine AP.V (fun c hnil=>?_);simp only [nz])|refine AP.PF ?_)|((with_reducible apply DW.k_any);first|refine DW.ST ?_))<;>(try simp only [q1,q2,q3,nq,Nat.reduceBEq,Nat.reduceAdd,Nat.reduceSub]))|refine CP.TL ?_|((with_reducible apply CP.k_drw);refine cp_drwX fun Q' hQ'=>?_)|((with_reducible apply CP.k_reg);refine cp_regG fun Q' hQ'=>?_)|((with_reducible apply CP.k_cond);refine cp_cond rfl (fun hc=>?_) (fun hc=>?_))|(simp only [List.append_eq,List.cons_append,List.nil_append]))
    (exact RetQ.A [] (by exact ⟨rfl,rfl⟩))
def aC (f:Nat→Int):List AV:=(List.range 4).map fun i=>I (f i)
theorem aC_len (f:Nat→Int):(aC f).length=4:=rfl
theorem aC_at (f:Nat→Int) {k:Nat} (h:k < 4):(aC f)[k]? = some (I (f k)):=by
 unfold aC;rw [List.getElem?_map,List.getElem?_range h];rfl
theorem aC_set (f:Nat→Int) (k:Nat) (v:Int):(aC f).set k (I v)=aC (updA f k v):=by
 refine List.ext_getElem? fun j=>?_
 rw [List.getElem?_set,aC_len]
 by_cases hj:k=j
 ·subst hj;rw [if_pos rfl]
  by_cases h:k < 4
  ·rw [if_pos h,aC_at _ h];simp [updA]
  ·rw [if_neg h,List.getElem?_eq_none (by rw [aC_len];omega)]
 ·rw [if_neg hj]
  by_cases h:j < 4
  ·rw [aC_at _ h,aC_at _ h];simp [updA,Ne.symm hj]
  ·rw [List.getElem?_eq_none (by rw [aC_len];omega),List.getElem?_eq_none (by rw [aC_len];omega)]
/-- where the law's loop stands: the place, what there is, how far each was told, how often it was called, answered -/
structure Ost where
 i:Nat
 s:Gs
 t:Nat→Int
 u:Nat
 v:Nat
theorem once_go (root:List UInt8) (k:Nat) (L:List Ga) (haw:AC Tryz.prog 13 [] [] (fun v bs'=>v=B true∧bs'=[])) (hl:L.length≤100000000) (hs:∀ a∈L,a.small) (hr:root.length≤100) (h1:1≤k) (h2:k≤5) (hg:great27 L=false):(fun nodes:Int=>AC Tryz.prog 4 [bs none root,I nodes,gaS L] [] (fun v bs'=>v=B true∧bs'=[])) k:=by
 dsimp only;have g:=great27_ac L hl hs;rw [hg] at g;have q1:decide ((100:Int) < (root.length:Int))=false:=by simp;omega
 have q2:decide ((k:Int) < 1)=false:=decide_eq_false (by omega);have q3:decide (5 < (k:Int))=false:=decide_eq_false (by omega);have n0:=gnew_ok root k (by omega) (by omega);have n1:=peers_ac root (by omega);have h0:=gw0_ok root (by omega) h1 h2;have ht0:Tol (gw0 root k) fun _=>0:=fun c _=>⟨Int.le_refl _,by show ((none:Option (List UInt8)).isSome=true↔(0:Int) < 0);simp⟩
 have ha0:∀ i,(gw0 root k).ask i=0:=fun _=>rfl
 have hz0:aC (gw0 root k).ask=[I 0,I 0,I 0,I 0]:=rfl;have hz1:aC (fun _=>0)=[I 0,I 0,I 0,I 0]:=rfl;rw [show (k:Int).toNat=k from rfl] at n0
 change AC _ _ _ _ (fun v bs'=>v=.tu [.bp 0 0 0,I 0]∧bs'=[gB (gw0 root k)]) at n0
 generalize gw0 root k=x at *;refine AC.N Tryz.func4 Tryz.ntmps4 ?_;intro X hρ hmks;refine NX ?_
 repeat' (first|((first|((with_reducible apply AP.k_any);first|refine AP.ST ?_|(refine AP.Y ?_;dsimp only)|refine AP.G (fun hg=>?_) (fun hg=>?_)|(refine AP.V (fun c hnil=>?_);simp only [nz])|refine AP.PF ?_))<;>(try simp only [q1,q2,q3,nq,Nat.reduceBEq,Nat.reduceAdd,Nat.reduceSub]))|refine CP.TN ?_|((with_reducible apply CP.k_reg);refine cp_regG fun Q' hQ'=>?_)|((with_reducible apply CP.k_cond);refine cp_cond rfl (fun hc=>?_) (fun hc=>?_))|(simp only [List.append_eq,List.cons_append,List.nil_append]))
 clear n0 n1 g;obtain ⟨hL,hf⟩:=fine_of hg;have hp0:Gs.ok root ⟨x,prs root 10⟩ 0:=⟨h0,prs_fit root⟩;generalize prs root 10=P0 at *;clear h0;refine CP.gh gh_slot ?_;refine NX ?_
 refine cp_loopS [6,12,13,14,15,16,17,18,19,20,21,22,23,55,56,57,58,59,60,61,62,63,64,65,66,67,68,69,70,71,72,73,74,75,76,77,78,79,80,81,82,83,84,85,86,87,88,89,90,91,92,93,94,95,96,97,98,99,100,101,102,103,104,105,106,107,108,109,110,111,112,113,114,115,116,117,118,119,120,121,122,123,124,125,126,127,128,129,130,131,132,133,134,135,136,137,138,139,140,141,142,143,144,145,146,147,148,149,150,151,152,153,154,155,156,157,158,159,160,161,162,163,164,165,166,167,168,169,170,171,172,173,174,175,176,177,178,179,180,181,182,183,184,185,186,187,188,189,190,191,192,193,194,195,196,197,198,199,200,201,202] (fun a:Ost=>L.length - a.i) (fun a=>a.i≤L.length∧a.s.ok root (4 * a.i)∧Tol a.s.g a.t) (fun a=>[(12,I a.i)])
  (fun a=>[(0,⟨1,.c tGw [.bp 3 (a.u + 1) 0,I a.s.g.cfg.epoch,ms none a.s.g.cfg.members,.bp 6 (a.u + 1) 0,I (a.s.g.ask 0),I (a.s.g.ask 1),I (a.s.g.ask 2),I (a.s.g.ask 3)]⟩),(1,⟨a.u + 1,.m (keyN a.s.g.ends.sent) (rowN a.s.g.ends.sent) none none⟩),(2,⟨a.u + 1,.m (keyW a.s.g.ends.wins) (rowW a.s.g.ends.wins) none none⟩),(3,⟨a.u + 1,.c tEn [B true,bs none a.s.g.ends.root,I a.s.g.ends.who,I a.s.g.ends.boot,.hd 1 (a.u + 1),.hd 2 (a.u + 1)]⟩),(4,⟨a.u + 1,.r tIn 1 (wKs a.s.g.wt)⟩),(5,⟨a.u + 1,.m (wKv a.s.g.wt) (wVs a.s.g.wt) none none⟩),(6,⟨a.u + 1,.c tPl [I 4,.hd 4 (a.u + 1),.hd 5 (a.u + 1)]⟩),(7,⟨1,.r tDp 1 (a.s.p.map obD)⟩),(8,⟨1,.c t4 (aC a.s.g.ask)⟩),(9,⟨1,.c t4 (aC a.t)⟩),(10,⟨a.v,.x⟩)]) ⟨0,⟨x,P0⟩,fun _=>0,0,0⟩ ⟨Nat.zero_le _,hp0,ht0⟩ (by (rw [hz0,hz1];simp only [ha0];exact Gh.W)) ?_
 rintro ⟨i,⟨y,P⟩,t,u,v⟩ ⟨hi,hok,ht⟩;simp only [setT,deT,setB,List.set_cons_succ,List.set_cons_zero];dsimp only at hi hok ht
 by_cases hil:i < L.length
 ·have p1:decide ((i:Int) < (L.length:Int))=true:=by simp;omega
  have p2:IntKind.i64.wrap ((i:Int) + 1)=((i + 1:Nat):Int):=wrap_i64 (by omega) (by omega);have hA:(L.map eGa)[i]? = some (eGa L[i]):=by rw [List.getElem?_map,List.getElem?_eq_getElem hil];rfl
  have hfa:=hf _ (List.getElem_mem hil);generalize L[i]=a at *
  by_cases hk:a.kind=0∨a.kind=1
  ·obtain ⟨b0,b1,k0,k1,hb⟩:∃ b0 b1,(a.kind == 0)=b0∧(a.kind == 1)=b1∧((b0,b1)=(true,false)∨(b0,b1)=(false,true)):=by
    rcases hk with hk|hk<;>rw [hk]
    ·exact ⟨true,false,rfl,rfl,.inl rfl⟩
    ·exact ⟨false,true,rfl,rfl,.inr rfl⟩
   have h3:=gsub_ac y _ hok.g (by omega) a.client a.body (by have:=hfa.b;omega);have hor:=ht.submit hok.g a.client a.body;have hok2:=(hok.act a).1;rw [show Gs.act ⟨y,P⟩ a=(([],(y.submit a.client a.body).1.2.1),⟨(y.submit a.client a.body).2,P⟩) from if_pos hk] at hok2;generalize y.submit a.client a.body=R at *;obtain ⟨⟨id,out,e⟩,y2⟩:=R;dsimp only at h3 hor hok2;rcases hor with ⟨he,hid,hy⟩|⟨he,k,hk4,hcl,hid,htk,hask,ht2⟩
   ·have r1:(e != 0)=true:=by simpa using he
    subst hid hy
    rcases hb with hb|hb<;>cases hb <;>
     (repeat' (first|((first|((with_reducible apply AP.k_any);first|refine AP.ST ?_|(refine AP.Y ?_;dsimp only)|refine AP.G (fun hg=>?_) (fun hg=>?_)|(refine AP.V (fun c hnil=>?_);simp only [nz])|((with_reducible apply AP.k_any);refine AP.B 0 (h3) ?_)|refine AP.PF ?_)|((with_reducible apply DW.k_any);first|refine DW.ST ?_)|((with_reducible apply DW.k_any);first|refine DW.R ?_|refine DW.R' ?_|refine DW.W ?_|refine DW.W' ?_|(refine DW.known rfl ?_;(with_reducible first|apply DW.sx 2);(iterate 2 (focus (simp only [ft,nm,Nat.reduceAdd,Nat.reduceBEq,List.getElem?_cons_zero,List.getElem?_cons_succ];exact rfl)));(focus (intro X V;simp only [ft,nm,Nat.reduceAdd,Nat.reduceBEq];(try (refine AP.Y ?_;dsimp only));(first|((with_reducible apply AP.k_any);refine AP.B 0 (h3) ?_)|fail);(try refine NX ?_);refine AP.nil ?_;(first|refine ⟨trivial,rfl,?_⟩|refine ⟨rfl,rfl,?_⟩);(repeat' (first|exact Mg.nil|apply Mg.keep rfl|apply Mg.take rfl));done));(focus (refine Exists.intro (fun _=>0) ?_;apply Exists.intro;(repeat' (first|exact Mg.nil|apply Mg.keep rfl|apply Mg.take rfl));done));(iterate 2 (focus (exact rfl))))))<;>(try simp only [p1,p2,k0,k1,r1,nq,Nat.reduceBEq,Nat.reduceAdd,Nat.reduceSub]))|refine CP.TL ?_|((with_reducible apply CP.k_drw);refine cp_drwX fun Q' hQ'=>?_)|((with_reducible apply CP.k_reg);refine cp_regG fun Q' hQ'=>?_)|((with_reducible apply CP.k_cond);refine cp_cond rfl (fun hc=>?_) (fun hc=>?_))|(simp only [List.append_eq,List.cons_append,List.nil_append]))
      exact ⟨⟨i + 1,⟨y2,P⟩,t,u + 1,v⟩,by (dsimp only;omega),⟨by (dsimp only;omega),hok2,ht⟩,by exact Gh.W⟩)
   ·subst he hid;rw [hcl] at h3;have r2:IntKind.i64.wrap (y.ask k + 1)=y.ask k + 1:=by have:=hok.g.a k;dsimp only at this;exact wrap_i64 (by omega) (by omega)
    have r3:(y.ask k + 1 != y.ask k + 1)=false:=by simp
    have r4:(t k != y.ask k)=false:=by simp [htk]
    have r5:decide ((k:Int) < 0)=false:=decide_eq_false (by omega);have r6:decide ((3:Int) < (k:Int))=false:=decide_eq_false (by omega);have l8:=aC_at y.ask hk4;have l9:=aC_at t hk4;have n8:=aC_len y.ask;have n9:=aC_len t;have w8:(aC y.ask).set k (I (y.ask k + 1))=aC y2.ask:=by rw [aC_set];exact congrArg aC (funext fun i=>(hask i).symm)
    rcases hb with hb|hb<;>cases hb <;>
     (repeat' (first|((first|((with_reducible apply AP.k_any);first|refine AP.ST ?_|(refine AP.Y ?_;dsimp only)|refine AP.G (fun hg=>?_) (fun hg=>?_)|(refine AP.V (fun c hnil=>?_);simp only [nz])|((with_reducible apply AP.k_any);refine AP.B 0 (h3) ?_)|refine AP.PF ?_)|((with_reducible apply DW.k_any);first|refine DW.ST ?_)|((with_reducible apply DW.k_any);first|refine DW.R ?_|refine DW.R' ?_|refine DW.W ?_|refine DW.W' ?_|(refine DW.known rfl ?_;(with_reducible first|apply DW.sx 2);(iterate 2 (focus (simp only [ft,nm,Nat.reduceAdd,Nat.reduceBEq,List.getElem?_cons_zero,List.getElem?_cons_succ];exact rfl)));(focus (intro X V;simp only [ft,nm,Nat.reduceAdd,Nat.reduceBEq];(try (refine AP.Y ?_;dsimp only));(first|((with_reducible apply AP.k_any);refine AP.B 0 (h3) ?_)|fail);(try refine NX ?_);refine AP.nil ?_;(first|refine ⟨trivial,rfl,?_⟩|refine ⟨rfl,rfl,?_⟩);(repeat' (first|exact Mg.nil|apply Mg.keep rfl|apply Mg.take rfl));done));(focus (refine Exists.intro (fun _=>0) ?_;apply Exists.intro;(repeat' (first|exact Mg.nil|apply Mg.keep rfl|apply Mg.take rfl));done));(iterate 2 (focus (exact rfl))))))<;>(try simp only [p1,p2,k0,k1,r2,r3,r4,r5,r6,hcl,w8,nq,Nat.reduceBEq,Nat.reduceAdd,Nat.reduceSub]))|refine CP.TL ?_|((with_reducible apply CP.k_drw);refine cp_drwX fun Q' hQ'=>?_)|((with_reducible apply CP.k_reg);refine cp_regG fun Q' hQ'=>?_)|((with_reducible apply CP.k_cond);refine cp_cond rfl (fun hc=>?_) (fun hc=>?_))|(simp only [List.append_eq,List.cons_append,List.nil_append]))
      exact ⟨⟨i + 1,⟨y2,P⟩,t,u + 1,v⟩,by (dsimp only;omega),⟨by (dsimp only;omega),hok2,ht2⟩,by exact Gh.W⟩)
  ·have k0:(a.kind == 0)=false:=by simpa using fun h=>hk (.inl h)
   have k1:(a.kind == 1)=false:=by simpa using fun h=>hk (.inr h)
   have h3:=do_ac ⟨y,P⟩ _ a hok (by omega) (by omega) hfa;have hok2:=(hok.act a).1;obtain ⟨hask,hor⟩:=ht.act hok a hk;generalize Gs.act ⟨y,P⟩ a=R at *;obtain ⟨⟨an,out⟩,⟨y2,P2⟩⟩:=R;dsimp only at h3 hok2 hask hor
   repeat' (first|((first|((with_reducible apply AP.k_any);first|refine AP.ST ?_|(refine AP.Y ?_;dsimp only)|refine AP.G (fun hg=>?_) (fun hg=>?_)|(refine AP.V (fun c hnil=>?_);simp only [nz])|((with_reducible apply AP.k_any);refine AP.B 0 (h3) ?_)|refine AP.PF ?_)|((with_reducible apply DW.k_any);first|refine DW.ST ?_)|((with_reducible apply DW.k_any);first|refine DW.R ?_|refine DW.R' ?_|refine DW.W ?_|refine DW.W' ?_|(refine DW.known rfl ?_;(with_reducible first|apply DW.sx 2);(iterate 2 (focus (simp only [ft,nm,Nat.reduceAdd,Nat.reduceBEq,List.getElem?_cons_zero,List.getElem?_cons_succ];exact rfl)));(focus (intro X V;simp only [ft,nm,Nat.reduceAdd,Nat.reduceBEq];(try (refine AP.Y ?_;dsimp only));(first|((with_reducible apply AP.k_any);refine AP.B 0 (h3) ?_)|fail);(try refine NX ?_);refine AP.nil ?_;(first|refine ⟨trivial,rfl,?_⟩|refine ⟨rfl,rfl,?_⟩);(repeat' (first|exact Mg.nil|apply Mg.keep rfl|apply Mg.take rfl));done));(focus (refine Exists.intro (fun _=>0) ?_;apply Exists.intro;(repeat' (first|exact Mg.nil|apply Mg.keep rfl|apply Mg.take rfl));done));(iterate 2 (focus (exact rfl))))))<;>(try simp only [p1,p2,k0,k1,nq,Nat.reduceBEq,Nat.reduceAdd,Nat.reduceSub]))|refine CP.TL ?_|((with_reducible apply CP.k_drw);refine cp_drwX fun Q' hQ'=>?_)|((with_reducible apply CP.k_reg);refine cp_regG fun Q' hQ'=>?_)|((with_reducible apply CP.k_cond);refine cp_cond rfl (fun hc=>?_) (fun hc=>?_))|(simp only [List.append_eq,List.cons_append,List.nil_append]))
   rw [←hask] at hor ⊢;rcases hor with ⟨han,ht2⟩|⟨k,r,hk4,han,hlt,ht2⟩
   ·subst han;refine cp_rounds 1 ?_
    repeat' (first|((first|((with_reducible apply AP.k_any);first|refine AP.ST ?_|(refine AP.Y ?_;dsimp only)|refine AP.G (fun hg=>?_) (fun hg=>?_)|(refine AP.V (fun c hnil=>?_);simp only [nz])|refine AP.PF ?_)|((with_reducible apply DW.k_any);first|refine DW.ST ?_))<;>(try simp only [List.map_nil,List.length_nil,nq,Nat.reduceBEq,Nat.reduceAdd,Nat.reduceSub]))|refine CP.TL ?_|((with_reducible apply CP.k_drw);refine cp_drwX fun Q' hQ'=>?_)|((with_reducible apply CP.k_reg);refine cp_regG fun Q' hQ'=>?_)|((with_reducible apply CP.k_cond);refine cp_cond rfl (fun hc=>?_) (fun hc=>?_))|(simp only [List.append_eq,List.cons_append,List.nil_append]))
    try clear l8 l9
    refine cp_loopS [6,21,22,23,174,175,176,177,178,179,180,181,182,183,184,185,186,187,188,189,190,191,192,193,194,195,196,197,198,199,200,201,202] (fun c:Nat=>4 - c) (fun c=>c≤4) (fun c=>[(21,I c)])
     (fun c=>[(0,⟨1,.c tGw [.bp 3 (u + 2 + c) 0,I y2.cfg.epoch,ms none y2.cfg.members,.bp 6 (u + 2 + c) 0,I (y2.ask 0),I (y2.ask 1),I (y2.ask 2),I (y2.ask 3)]⟩),(1,⟨u + 2 + c,.m (keyN y2.ends.sent) (rowN y2.ends.sent) none none⟩),(2,⟨u + 2 + c,.m (keyW y2.ends.wins) (rowW y2.ends.wins) none none⟩),(3,⟨u + 2 + c,.c tEn [B true,bs none y2.ends.root,I y2.ends.who,I y2.ends.boot,.hd 1 (u + 2 + c),.hd 2 (u + 2 + c)]⟩),(4,⟨u + 2 + c,.r tIn 1 (wKs y2.wt)⟩),(5,⟨u + 2 + c,.m (wKv y2.wt) (wVs y2.wt) none none⟩),(6,⟨u + 2 + c,.c tPl [I 4,.hd 4 (u + 2 + c),.hd 5 (u + 2 + c)]⟩)]) 0 (Nat.zero_le _) (by exact Gh.W) ?_
    rintro c hc;simp only [setT,deT,setB,List.set_cons_succ,List.set_cons_zero]
    by_cases hlt:c < 4
    ·have r1:decide ((c:Int) < 4)=true:=by simp;omega
     have r2:IntKind.i64.wrap ((c:Int) + 1)=((c + 1:Nat):Int):=wrap_i64 (by omega) (by omega);have h4:=gwaits_ac y2 _ hok2.g c;rw [ht2.waits hlt] at h4;have l8:=aC_at y2.ask hlt;have l9:=aC_at t hlt;have n8:=aC_len y2.ask;have n9:=aC_len t;have r4:(y2.ask c != y2.ask c)=false:=by simp
     by_cases hw:t c < y2.ask c
     ·rw [if_pos hw] at h4;have r3:=decide_eq_true hw
      repeat' (first|((first|((with_reducible apply AP.k_any);first|refine AP.ST ?_|(refine AP.Y ?_;dsimp only)|refine AP.G (fun hg=>?_) (fun hg=>?_)|(refine AP.V (fun c hnil=>?_);simp only [nz])|((with_reducible apply AP.k_any);refine AP.B 0 (h4) ?_)|refine AP.PF ?_)|((with_reducible apply DW.k_any);first|refine DW.ST ?_)|((with_reducible apply DW.k_any);first|refine DW.R ?_|refine DW.R' ?_|refine DW.W ?_|refine DW.W' ?_|(refine DW.known rfl ?_;(with_reducible first|apply DW.sx 2);(iterate 2 (focus (simp only [ft,nm,Nat.reduceAdd,Nat.reduceBEq,List.getElem?_cons_zero,List.getElem?_cons_succ];exact rfl)));(focus (intro X V;simp only [ft,nm,Nat.reduceAdd,Nat.reduceBEq];(try (refine AP.Y ?_;dsimp only));(first|((with_reducible apply AP.k_any);refine AP.B 0 (h4) ?_)|fail);(try refine NX ?_);refine AP.nil ?_;(first|refine ⟨trivial,rfl,?_⟩|refine ⟨rfl,rfl,?_⟩);(repeat' (first|exact Mg.nil|apply Mg.keep rfl|apply Mg.take rfl));done));(focus (refine Exists.intro (fun _=>0) ?_;apply Exists.intro;(repeat' (first|exact Mg.nil|apply Mg.keep rfl|apply Mg.take rfl));done));(iterate 2 (focus (exact rfl))))))<;>(try simp only [r1,r2,r3,r4,nq,Nat.reduceBEq,Nat.reduceAdd,Nat.reduceSub]))|refine CP.TL ?_|((with_reducible apply CP.k_drw);refine cp_drwX fun Q' hQ'=>?_)|((with_reducible apply CP.k_reg);refine cp_regG fun Q' hQ'=>?_)|((with_reducible apply CP.k_cond);refine cp_cond rfl (fun hc=>?_) (fun hc=>?_))|(simp only [List.append_eq,List.cons_append,List.nil_append]))
      exact ⟨c + 1,by omega,by omega,by exact Gh.W⟩
     ·rw [if_neg hw] at h4;have r3:=decide_eq_false hw
      repeat' (first|((first|((with_reducible apply AP.k_any);first|refine AP.ST ?_|(refine AP.Y ?_;dsimp only)|refine AP.G (fun hg=>?_) (fun hg=>?_)|(refine AP.V (fun c hnil=>?_);simp only [nz])|((with_reducible apply AP.k_any);refine AP.B 0 (h4) ?_)|refine AP.PF ?_)|((with_reducible apply DW.k_any);first|refine DW.ST ?_)|((with_reducible apply DW.k_any);first|refine DW.R ?_|refine DW.R' ?_|refine DW.W ?_|refine DW.W' ?_|(refine DW.known rfl ?_;(with_reducible first|apply DW.sx 2);(iterate 2 (focus (simp only [ft,nm,Nat.reduceAdd,Nat.reduceBEq,List.getElem?_cons_zero,List.getElem?_cons_succ];exact rfl)));(focus (intro X V;simp only [ft,nm,Nat.reduceAdd,Nat.reduceBEq];(try (refine AP.Y ?_;dsimp only));(first|((with_reducible apply AP.k_any);refine AP.B 0 (h4) ?_)|fail);(try refine NX ?_);refine AP.nil ?_;(first|refine ⟨trivial,rfl,?_⟩|refine ⟨rfl,rfl,?_⟩);(repeat' (first|exact Mg.nil|apply Mg.keep rfl|apply Mg.take rfl));done));(focus (refine Exists.intro (fun _=>0) ?_;apply Exists.intro;(repeat' (first|exact Mg.nil|apply Mg.keep rfl|apply Mg.take rfl));done));(iterate 2 (focus (exact rfl))))))<;>(try simp only [r1,r2,r3,r4,nq,Nat.reduceBEq,Nat.reduceAdd,Nat.reduceSub]))|refine CP.TL ?_|((with_reducible apply CP.k_drw);refine cp_drwX fun Q' hQ'=>?_)|((with_reducible apply CP.k_reg);refine cp_regG fun Q' hQ'=>?_)|((with_reducible apply CP.k_cond);refine cp_cond rfl (fun hc=>?_) (fun hc=>?_))|(simp only [List.append_eq,List.cons_append,List.nil_append]))
      exact ⟨c + 1,by omega,by omega,by exact Gh.W⟩
    ·obtain rfl:c=4:=by omega
     have r1:decide (((4:Nat):Int) < 4)=false:=rfl
     repeat' (first|((first|((with_reducible apply AP.k_any);first|refine AP.ST ?_|(refine AP.Y ?_;dsimp only)|refine AP.G (fun hg=>?_) (fun hg=>?_)|(refine AP.V (fun c hnil=>?_);simp only [nz])|refine AP.PF ?_)|((with_reducible apply DW.k_any);first|refine DW.ST ?_))<;>(try simp only [r1,p2,nq,Nat.reduceBEq,Nat.reduceAdd,Nat.reduceSub]))|refine CP.TL ?_|((with_reducible apply CP.k_drw);refine cp_drwX fun Q' hQ'=>?_)|((with_reducible apply CP.k_reg);refine cp_regG fun Q' hQ'=>?_)|((with_reducible apply CP.k_cond);refine cp_cond rfl (fun hc=>?_) (fun hc=>?_))|(simp only [List.append_eq,List.cons_append,List.nil_append]))
     exact ⟨⟨i + 1,⟨y2,P2⟩,t,u + 5,v + 1⟩,by (dsimp only;omega),⟨by (dsimp only;omega),hok2,ht2⟩,by exact Gh.W⟩
   ·subst han;have r4:(t k == y2.ask k)=false:=by simp;omega
    have r3:(y2.ask k != y2.ask k)=false:=by simp
    have r5:decide ((k:Int) < 0)=false:=decide_eq_false (by omega);have r6:decide ((3:Int) < (k:Int))=false:=decide_eq_false (by omega);have l8:=aC_at y2.ask hk4;have l9:=aC_at t hk4;have n8:=aC_len y2.ask;have n9:=aC_len t;have w9:=aC_set t k (y2.ask k);refine cp_rounds 2 ?_
    repeat' (first|((first|((with_reducible apply AP.k_any);first|refine AP.ST ?_|(refine AP.Y ?_;dsimp only)|refine AP.G (fun hg=>?_) (fun hg=>?_)|(refine AP.V (fun c hnil=>?_);simp only [nz])|refine AP.PF ?_)|((with_reducible apply DW.k_any);first|refine DW.ST ?_))<;>(try simp only [r3,r4,r5,r6,w9,List.map_cons,List.map_nil,List.length_nil,List.length_cons,nq,Nat.reduceBEq,Nat.reduceAdd,Nat.reduceSub]))|refine CP.TL ?_|((with_reducible apply CP.k_drw);refine cp_drwX fun Q' hQ'=>?_)|((with_reducible apply CP.k_reg);refine cp_regG fun Q' hQ'=>?_)|((with_reducible apply CP.k_cond);refine cp_cond rfl (fun hc=>?_) (fun hc=>?_))|(simp only [List.append_eq,List.cons_append,List.nil_append]))
    generalize updA t k (y2.ask k)=T at *
    try clear l8 l9
    refine cp_loopS [6,21,22,23,174,175,176,177,178,179,180,181,182,183,184,185,186,187,188,189,190,191,192,193,194,195,196,197,198,199,200,201,202] (fun c:Nat=>4 - c) (fun c=>c≤4) (fun c=>[(21,I c)])
     (fun c=>[(0,⟨1,.c tGw [.bp 3 (u + 2 + c) 0,I y2.cfg.epoch,ms none y2.cfg.members,.bp 6 (u + 2 + c) 0,I (y2.ask 0),I (y2.ask 1),I (y2.ask 2),I (y2.ask 3)]⟩),(1,⟨u + 2 + c,.m (keyN y2.ends.sent) (rowN y2.ends.sent) none none⟩),(2,⟨u + 2 + c,.m (keyW y2.ends.wins) (rowW y2.ends.wins) none none⟩),(3,⟨u + 2 + c,.c tEn [B true,bs none y2.ends.root,I y2.ends.who,I y2.ends.boot,.hd 1 (u + 2 + c),.hd 2 (u + 2 + c)]⟩),(4,⟨u + 2 + c,.r tIn 1 (wKs y2.wt)⟩),(5,⟨u + 2 + c,.m (wKv y2.wt) (wVs y2.wt) none none⟩),(6,⟨u + 2 + c,.c tPl [I 4,.hd 4 (u + 2 + c),.hd 5 (u + 2 + c)]⟩)]) 0 (Nat.zero_le _) (by exact Gh.W) ?_
    rintro c hc;simp only [setT,deT,setB,List.set_cons_succ,List.set_cons_zero]
    by_cases hlt:c < 4
    ·have r1:decide ((c:Int) < 4)=true:=by simp;omega
     have r2:IntKind.i64.wrap ((c:Int) + 1)=((c + 1:Nat):Int):=wrap_i64 (by omega) (by omega);have h4:=gwaits_ac y2 _ hok2.g c;rw [ht2.waits hlt] at h4;have l8:=aC_at y2.ask hlt;have l9:=aC_at T hlt;have n8:=aC_len y2.ask;have n9:=aC_len T;have r4:(y2.ask c != y2.ask c)=false:=by simp
     by_cases hw:T c < y2.ask c
     ·rw [if_pos hw] at h4;have r3:=decide_eq_true hw
      repeat' (first|((first|((with_reducible apply AP.k_any);first|refine AP.ST ?_|(refine AP.Y ?_;dsimp only)|refine AP.G (fun hg=>?_) (fun hg=>?_)|(refine AP.V (fun c hnil=>?_);simp only [nz])|((with_reducible apply AP.k_any);refine AP.B 0 (h4) ?_)|refine AP.PF ?_)|((with_reducible apply DW.k_any);first|refine DW.ST ?_)|((with_reducible apply DW.k_any);first|refine DW.R ?_|refine DW.R' ?_|refine DW.W ?_|refine DW.W' ?_|(refine DW.known rfl ?_;(with_reducible first|apply DW.sx 2);(iterate 2 (focus (simp only [ft,nm,Nat.reduceAdd,Nat.reduceBEq,List.getElem?_cons_zero,List.getElem?_cons_succ];exact rfl)));(focus (intro X V;simp only [ft,nm,Nat.reduceAdd,Nat.reduceBEq];(try (refine AP.Y ?_;dsimp only));(first|((with_reducible apply AP.k_any);refine AP.B 0 (h4) ?_)|fail);(try refine NX ?_);refine AP.nil ?_;(first|refine ⟨trivial,rfl,?_⟩|refine ⟨rfl,rfl,?_⟩);(repeat' (first|exact Mg.nil|apply Mg.keep rfl|apply Mg.take rfl));done));(focus (refine Exists.intro (fun _=>0) ?_;apply Exists.intro;(repeat' (first|exact Mg.nil|apply Mg.keep rfl|apply Mg.take rfl));done));(iterate 2 (focus (exact rfl))))))<;>(try simp only [r1,r2,r3,r4,nq,Nat.reduceBEq,Nat.reduceAdd,Nat.reduceSub]))|refine CP.TL ?_|((with_reducible apply CP.k_drw);refine cp_drwX fun Q' hQ'=>?_)|((with_reducible apply CP.k_reg);refine cp_regG fun Q' hQ'=>?_)|((with_reducible apply CP.k_cond);refine cp_cond rfl (fun hc=>?_) (fun hc=>?_))|(simp only [List.append_eq,List.cons_append,List.nil_append]))
      exact ⟨c + 1,by omega,by omega,by exact Gh.W⟩
     ·rw [if_neg hw] at h4;have r3:=decide_eq_false hw
      repeat' (first|((first|((with_reducible apply AP.k_any);first|refine AP.ST ?_|(refine AP.Y ?_;dsimp only)|refine AP.G (fun hg=>?_) (fun hg=>?_)|(refine AP.V (fun c hnil=>?_);simp only [nz])|((with_reducible apply AP.k_any);refine AP.B 0 (h4) ?_)|refine AP.PF ?_)|((with_reducible apply DW.k_any);first|refine DW.ST ?_)|((with_reducible apply DW.k_any);first|refine DW.R ?_|refine DW.R' ?_|refine DW.W ?_|refine DW.W' ?_|(refine DW.known rfl ?_;(with_reducible first|apply DW.sx 2);(iterate 2 (focus (simp only [ft,nm,Nat.reduceAdd,Nat.reduceBEq,List.getElem?_cons_zero,List.getElem?_cons_succ];exact rfl)));(focus (intro X V;simp only [ft,nm,Nat.reduceAdd,Nat.reduceBEq];(try (refine AP.Y ?_;dsimp only));(first|((with_reducible apply AP.k_any);refine AP.B 0 (h4) ?_)|fail);(try refine NX ?_);refine AP.nil ?_;(first|refine ⟨trivial,rfl,?_⟩|refine ⟨rfl,rfl,?_⟩);(repeat' (first|exact Mg.nil|apply Mg.keep rfl|apply Mg.take rfl));done));(focus (refine Exists.intro (fun _=>0) ?_;apply Exists.intro;(repeat' (first|exact Mg.nil|apply Mg.keep rfl|apply Mg.take rfl));done));(iterate 2 (focus (exact rfl))))))<;>(try simp only [r1,r2,r3,r4,nq,Nat.reduceBEq,Nat.reduceAdd,Nat.reduceSub]))|refine CP.TL ?_|((with_reducible apply CP.k_drw);refine cp_drwX fun Q' hQ'=>?_)|((with_reducible apply CP.k_reg);refine cp_regG fun Q' hQ'=>?_)|((with_reducible apply CP.k_cond);refine cp_cond rfl (fun hc=>?_) (fun hc=>?_))|(simp only [List.append_eq,List.cons_append,List.nil_append]))
      exact ⟨c + 1,by omega,by omega,by exact Gh.W⟩
    ·obtain rfl:c=4:=by omega
     have r1:decide (((4:Nat):Int) < 4)=false:=rfl
     repeat' (first|((first|((with_reducible apply AP.k_any);first|refine AP.ST ?_|(refine AP.Y ?_;dsimp only)|refine AP.G (fun hg=>?_) (fun hg=>?_)|(refine AP.V (fun c hnil=>?_);simp only [nz])|refine AP.PF ?_)|((with_reducible apply DW.k_any);first|refine DW.ST ?_))<;>(try simp only [r1,p2,nq,Nat.reduceBEq,Nat.reduceAdd,Nat.reduceSub]))|refine CP.TL ?_|((with_reducible apply CP.k_drw);refine cp_drwX fun Q' hQ'=>?_)|((with_reducible apply CP.k_reg);refine cp_regG fun Q' hQ'=>?_)|((with_reducible apply CP.k_cond);refine cp_cond rfl (fun hc=>?_) (fun hc=>?_))|(simp only [List.append_eq,List.cons_append,List.nil_append]))
     exact ⟨⟨i + 1,⟨y2,P2⟩,T,u + 5,v + 1⟩,by (dsimp only;omega),⟨by (dsimp only;omega),hok2,ht2⟩,by exact Gh.W⟩
 ·obtain rfl:i=L.length:=by omega
  have p1:decide ((L.length:Int) < (L.length:Int))=false:=by simp
  repeat' (first|((first|((with_reducible apply AP.k_any);first|refine AP.ST ?_|(refine AP.Y ?_;dsimp only)|refine AP.G (fun hg=>?_) (fun hg=>?_)|(refine AP.V (fun c hnil=>?_);simp only [nz])|refine AP.PF ?_)|((with_reducible apply DW.k_any);first|refine DW.ST ?_))<;>(try simp only [p1,nq,Nat.reduceBEq,Nat.reduceAdd,Nat.reduceSub]))|refine CP.TL ?_|((with_reducible apply CP.k_drw);refine cp_drwX fun Q' hQ'=>?_)|((with_reducible apply CP.k_reg);refine cp_regG fun Q' hQ'=>?_)|((with_reducible apply CP.k_cond);refine cp_cond rfl (fun hc=>?_) (fun hc=>?_))|(simp only [List.append_eq,List.cons_append,List.nil_append]))
  (exact RetQ.A [] (by exact ⟨rfl,rfl⟩))
theorem once_ac (root:List UInt8) (nodes:Int) (L:List Ga) (haw:AC Tryz.prog 13 [] [] (fun v bs'=>v=B true∧bs'=[])) (hl:L.length≤100000000) (hs:∀ a∈L,a.small):AC Tryz.prog 4 [bs none root,I nodes,gaS L] [] (fun v bs'=>v=B true∧bs'=[]):=by
 by_cases h:100 < root.length∨nodes < 1∨5 < nodes∨great27 L=true
 ·exact once_big root nodes L haw hl hs h
 ·obtain ⟨k,rfl⟩:∃ k:Nat,nodes=k:=⟨nodes.toNat,by omega⟩
  have hg:great27 L=false:=by
   cases hg:great27 L with
   | false=>rfl
   | true=>exact absurd (.inr (.inr (.inr hg))) h
  exact once_go root k L haw hl hs (by omega) (by omega) (by omega) hg
end Go.Proofs.YtifebijohmlnbaaGreat
