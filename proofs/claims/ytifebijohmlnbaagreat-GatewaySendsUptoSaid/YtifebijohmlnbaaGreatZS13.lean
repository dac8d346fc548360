/-
  Texts joined: G16.
-/
import Derived.Test.YtifebijohmlnbaaGreatZS1
import Derived.Test.YtifebijohmlnbaaGreatZS2
import Derived.Test.YtifebijohmlnbaaGreatZS3
import Derived.Test.YtifebijohmlnbaaGreatZS4
import Derived.Test.YtifebijohmlnbaaGreatZS5
import Derived.Test.YtifebijohmlnbaaGreatZS6
import Derived.Test.YtifebijohmlnbaaGreatZS7
import Derived.Test.YtifebijohmlnbaaGreatZS8
import Derived.Test.YtifebijohmlnbaaGreatZS9
import Derived.Test.YtifebijohmlnbaaGreatZS10
import Derived.Test.YtifebijohmlnbaaGreatZS11
import Derived.Test.YtifebijohmlnbaaGreatZS12
namespace Go.Proofs.YtifebijohmlnbaaGreat
set_option linter.unusedVariables false
set_option linter.unusedSimpArgs false
open Go.RowKit
set_option maxRecDepth 100000
set_option maxHeartbeats 8000000
abbrev tS4:TypeId:=63
theorem sends_big (root:List UInt8) (nodes:Int) (L:List Ga) (haw:AC Tryz.prog 13 [] [] (fun v bs'=>v=B true∧bs'=[])) (hl:L.length≤100000000) (hs:∀ a∈L,a.small) (h:100 < root.length∨nodes < 1∨5 < nodes∨great27 L=true):AC Tryz.prog 5 [bs none root,I nodes,gaS L] [] (fun v bs'=>v=B true∧bs'=[]):=by
 have g:=great27_ac L hl hs
 by_cases h1:100 < root.length
 ·have q1:decide ((100:Int) < (root.length:Int))=true:=by simp;omega
  refine AC.N Tryz.func5 Tryz.ntmps5 ?_;intro X hρ hmks;refine NX ?_
  repeat' (first|((first|((with_reducible apply AP.k_any);first|refine AP.ST ?_|(refine AP.Y ?_;dsimp only)|refine AP.G (fun hg=>?_) (fun hg=>?_)|(refine AP.V (fun c hnil=>?_);simp only [nz])|refine AP.PF ?_)|((with_reducible apply DW.k_any);first|refine DW.ST ?_))<;>(try simp only [q1,nq,Nat.reduceBEq,Nat.reduceAdd,Nat.reduceSub]))|refine CP.TL ?_|((with_reducible apply CP.k_drw);refine cp_drwX fun Q' hQ'=>?_)|((with_reducible apply CP.k_reg);refine cp_regG fun Q' hQ'=>?_)|((with_reducible apply CP.k_cond);refine cp_cond rfl (fun hc=>?_) (fun hc=>?_))|(simp only [List.append_eq,List.cons_append,List.nil_append]))
  (exact RetQ.A [] (by exact ⟨rfl,rfl⟩))
 ·have q1:decide ((100:Int) < (root.length:Int))=false:=by simp;omega
  by_cases h2:nodes < 1
  ·have q2:decide (nodes < 1)=true:=decide_eq_true h2;refine AC.N Tryz.func5 Tryz.ntmps5 ?_;intro X hρ hmks;refine NX ?_
   repeat' (first|((first|((with_reducible apply AP.k_any);first|refine AP.ST ?_|(refine AP.Y ?_;dsimp only)|refine AP.G (fun hg=>?_) (fun hg=>?_)|(refine AP.V (fun c hnil=>?_);simp only [nz])|refine AP.PF ?_)|((with_reducible apply DW.k_any);first|refine DW.ST ?_))<;>(try simp only [q1,q2,nq,Nat.reduceBEq,Nat.reduceAdd,Nat.reduceSub]))|refine CP.TL ?_|((with_reducible apply CP.k_drw);refine cp_drwX fun Q' hQ'=>?_)|((with_reducible apply CP.k_reg);refine cp_regG fun Q' hQ'=>?_)|((with_reducible apply CP.k_cond);refine cp_cond rfl (fun hc=>?_) (fun hc=>?_))|(simp only [List.append_eq,List.cons_append,List.nil_append]))
   (exact RetQ.A [] (by exact ⟨rfl,rfl⟩))
  ·have q2:decide (nodes < 1)=false:=decide_eq_false h2
   by_cases h3:5 < nodes
   ·have q3:decide (5 < nodes)=true:=decide_eq_true h3;refine AC.N Tryz.func5 Tryz.ntmps5 ?_;intro X hρ hmks;refine NX ?_
    repeat' (first|((first|((with_reducible apply AP.k_any);first|refine AP.ST ?_|(refine AP.Y ?_;dsimp only)|refine AP.G (fun hg=>?_) (fun hg=>?_)|(refine AP.V (fun c hnil=>?_);simp only [nz])|refine AP.PF ?_)|((with_reducible apply DW.k_any);first|refine DW.ST ?_))<;>(try simp only [q1,q2,q3,nq,Nat.reduceBEq,Nat.reduceAdd,Nat.reduceSub]))|refine CP.TL ?_|((with_reducible apply CP.k_drw);refine cp_drwX fun Q' hQ'=>?_)|((with_reducible apply CP.k_reg);refine cp_regG fun Q' hQ'=>?_)|((with_reducible apply CP.k_cond);refine cp_cond rfl (fun hc=>?_) (fun hc=>?_))|(simp only [List.append_eq,List.cons_append,List.nil_append]))
    (exact RetQ.A [] (by exact ⟨rfl,rfl⟩))
   ·have q3:decide (5 < nodes)=false:=decide_eq_false h3
    have hg:great27 L=true:=by
     rcases h with h|h|h|h
     ·exact absurd h h1
     ·exact absurd h h2
     ·exact absurd h h3
     ·exact h
    rw [hg] at g;refine AC.N Tryz.func5 Tryz.ntmps5 ?_;intro X hρ hmks;refine NX ?_
    repeat' (first|((first|((with_reducible apply AP.k_any);first|refine AP.ST ?_|(refine AP.Y ?_;dsimp only)|refine AP.G (fun hg=>?_) (fun hg=>?_)|(refine AP.V (fun c hnil=>?_);simp only [nz])|refine AP.PF ?_)|((with_reducible apply DW.k_any);first|refine DW.ST ?_))<;>(try simp only [q1,q2,q3,nq,Nat.reduceBEq,Nat.reduceAdd,Nat.reduceSub]))|refine CP.TL ?_|((with_reducible apply CP.k_drw);refine cp_drwX fun Q' hQ'=>?_)|((with_reducible apply CP.k_reg);refine cp_regG fun Q' hQ'=>?_)|((with_reducible apply CP.k_cond);refine cp_cond rfl (fun hc=>?_) (fun hc=>?_))|(simp only [List.append_eq,List.cons_append,List.nil_append]))
    (exact RetQ.A [] (by exact ⟨rfl,rfl⟩))
def sC (f:Nat→List UInt8):List AV:=(List.range 4).map fun i=>S (f i)
theorem sC_len (f:Nat→List UInt8):(sC f).length=4:=rfl
theorem sC_at (f:Nat→List UInt8) {k:Nat} (h:k < 4):(sC f)[k]? = some (S (f k)):=by
 unfold sC;rw [List.getElem?_map,List.getElem?_range h];rfl
theorem sC_set (f:Nat→List UInt8) (k:Nat) (v:List UInt8):(sC f).set k (S v)=sC (updB f k v):=by
 refine List.ext_getElem? fun j=>?_
 rw [List.getElem?_set,sC_len]
 by_cases hj:k=j
 ·subst hj;rw [if_pos rfl]
  by_cases h:k < 4
  ·rw [if_pos h,sC_at _ h];simp [updB]
  ·rw [if_neg h,List.getElem?_eq_none (by rw [sC_len];omega)]
 ·rw [if_neg hj]
  by_cases h:j < 4
  ·rw [sC_at _ h,sC_at _ h];simp [updB,Ne.symm hj]
  ·rw [List.getElem?_eq_none (by rw [sC_len];omega),List.getElem?_eq_none (by rw [sC_len];omega)]
/-- where the law's loop stands: the place, what there is, the bodies, how often it was called, how many packets were read -/
structure Ss where
 i:Nat
 s:Gs
 bd:Nat→List UInt8
 u:Nat
 v:Nat
theorem sends_go (root:List UInt8) (k:Nat) (L:List Ga) (haw:AC Tryz.prog 13 [] [] (fun v bs'=>v=B true∧bs'=[])) (hl:L.length≤100000000) (hs:∀ a∈L,a.small) (hr:root.length≤100) (h1:1≤k) (h2:k≤5) (hg:great27 L=false):(fun nodes:Int=>AC Tryz.prog 5 [bs none root,I nodes,gaS L] [] (fun v bs'=>v=B true∧bs'=[])) k:=by
 dsimp only;have g:=great27_ac L hl hs;rw [hg] at g;have q1:decide ((100:Int) < (root.length:Int))=false:=by simp;omega
 have q2:decide ((k:Int) < 1)=false:=decide_eq_false (by omega);have q3:decide (5 < (k:Int))=false:=decide_eq_false (by omega);have n0:=gnew_ok root k (by omega) (by omega);have n1:=peers_ac root (by omega);have h0:=gw0_ok root (by omega) h1 h2;have hb0:Bod (gw0 root k) fun _=>[]:=fun c r _ h=>by cases h
 have hr0:(gw0 root k).ends.root=root:=rfl;have hz:sC (fun _=>[])=[S [],S [],S [],S []]:=rfl;rw [show (k:Int).toNat=k from rfl] at n0
 change AC _ _ _ _ (fun v bs'=>v=.tu [.bp 0 0 0,I 0]∧bs'=[gB (gw0 root k)]) at n0
 generalize gw0 root k=x at *;refine AC.N Tryz.func5 Tryz.ntmps5 ?_;intro X hρ hmks;refine NX ?_
 repeat' (first|((first|((with_reducible apply AP.k_any);first|refine AP.ST ?_|(refine AP.Y ?_;dsimp only)|refine AP.G (fun hg=>?_) (fun hg=>?_)|(refine AP.V (fun c hnil=>?_);simp only [nz])|refine AP.PF ?_))<;>(try simp only [q1,q2,q3,nq,Nat.reduceBEq,Nat.reduceAdd,Nat.reduceSub]))|refine CP.TN ?_|((with_reducible apply CP.k_reg);refine cp_regG fun Q' hQ'=>?_)|((with_reducible apply CP.k_cond);refine cp_cond rfl (fun hc=>?_) (fun hc=>?_))|(simp only [List.append_eq,List.cons_append,List.nil_append]))
 clear n0 n1 g;obtain ⟨hL,hf⟩:=fine_of hg;have hp0:Gs.ok root ⟨x,prs root 10⟩ 0:=⟨h0,prs_fit root⟩;generalize prs root 10=P0 at *;clear h0;refine CP.gh gh_slot ?_;refine NX ?_
 refine CP.gh gh_slot ?_;refine NX ?_
 refine CP.gh gh_slot ?_;refine NX ?_
 refine CP.gh gh_slot ?_;refine NX ?_
 refine CP.gh gh_slot ?_;refine NX ?_
 refine cp_loopS [6,11,12,13,14,15,16,17,18,19,20,21,22,23,24,25,26,27,28,60,61,62,63,64,65,66,67,68,69,70,71,72,73,74,75,76,77,78,79,80,81,82,83,84,85,86,87,88,89,90,91,92,93,94,95,96,97,98,99,100,101,102,103,104,105,106,107,108,109,110,111,112,113,114,115,116,117,118,119,120,121,122,123,124,125,126,127,128,129,130,131,132,133,134,135,136,137,138,139,140,141,142,143,144,145,146,147,148,149,150,151,152,153,154,155,156,157,158,159,160,161,162,163,164,165,166,167,168,169,170,171,172,173,174,175,176,177,178,179,180,181,182,183,184,185,186,187,188,189,190,191,192,193,194,195,196,197,198,199,200,201,202,203,204,205,206,207,208,209,210,211,212,213,214,215,216,217,218,219,220,221,222,223,224,225,226,227,228,229,230,231,232,233,234,235] (fun a:Ss=>L.length - a.i) (fun a=>a.i≤L.length∧a.s.ok root (4 * a.i)∧a.s.g.ends.root=root∧Bod a.s.g a.bd) (fun a=>[(11,I a.i)])
  (fun a=>[(0,⟨1,.c tGw [.bp 3 (a.u + 1) 0,I a.s.g.cfg.epoch,ms none a.s.g.cfg.members,.bp 6 (a.u + 1) 0,I (a.s.g.ask 0),I (a.s.g.ask 1),I (a.s.g.ask 2),I (a.s.g.ask 3)]⟩),(1,⟨a.u + 1,.m (keyN a.s.g.ends.sent) (rowN a.s.g.ends.sent) none none⟩),(2,⟨a.u + 1,.m (keyW a.s.g.ends.wins) (rowW a.s.g.ends.wins) none none⟩),(3,⟨a.u + 1,.c tEn [B true,bs none a.s.g.ends.root,I a.s.g.ends.who,I a.s.g.ends.boot,.hd 1 (a.u + 1),.hd 2 (a.u + 1)]⟩),(4,⟨a.u + 1,.r tIn 1 (wKs a.s.g.wt)⟩),(5,⟨a.u + 1,.m (wKv a.s.g.wt) (wVs a.s.g.wt) none none⟩),(6,⟨a.u + 1,.c tPl [I 4,.hd 4 (a.u + 1),.hd 5 (a.u + 1)]⟩),(7,⟨1,.r tDp 1 (a.s.p.map obD)⟩),(8,⟨1,.c tS4 (sC a.bd)⟩),(9,⟨a.i,.x⟩),(10,⟨a.i,.x⟩),(11,⟨a.i,.x⟩),(12,⟨a.v,.x⟩),(13,⟨a.v,.x⟩)]) ⟨0,⟨x,P0⟩,fun _=>[],0,0⟩ ⟨Nat.zero_le _,hp0,hr0,hb0⟩ (by (rw [hz];exact Gh.W)) ?_
 rintro ⟨i,⟨y,P⟩,bd,u,v⟩ ⟨hi,hok,hro,hbd⟩;simp only [setT,deT,setB,List.set_cons_succ,List.set_cons_zero];dsimp only at hi hok hro hbd
 by_cases hil:i < L.length
 ·have p1:decide ((i:Int) < (L.length:Int))=true:=by simp;omega
  have p2:IntKind.i64.wrap ((i:Int) + 1)=((i + 1:Nat):Int):=wrap_i64 (by omega) (by omega);have hA:(L.map eGa)[i]? = some (eGa L[i]):=by rw [List.getElem?_map,List.getElem?_eq_getElem hil];rfl
  have hfa:=hf _ (List.getElem_mem hil);generalize L[i]=a at *
  repeat (refine CP.TN ?_)
  repeat' (((with_reducible apply AP.k_any);first|refine AP.ST ?_|(refine AP.Y ?_;dsimp only)|refine AP.G (fun hg=>?_) (fun hg=>?_)|(refine AP.V (fun c hnil=>?_);simp only [nz])|refine AP.PF ?_)<;>(try simp only [p1,nq,Nat.reduceBEq,Nat.reduceAdd,Nat.reduceSub]))
  repeat (refine CP.TN ?_)
  repeat' (((with_reducible apply AP.k_any);first|refine AP.ST ?_|(refine AP.Y ?_;dsimp only)|refine AP.G (fun hg=>?_) (fun hg=>?_)|(refine AP.V (fun c hnil=>?_);simp only [nz])|refine AP.PF ?_)<;>(try simp only [nq,Nat.reduceBEq,Nat.reduceAdd,Nat.reduceSub]))
  refine CP.TN ?_;refine thenQ_n ?_;refine cp_cutS [13,14,70,71,72,73,74,75,76,77,78,79,80,81,82,83,84,85,86,87,88,89,90,91,92,93,94,95,96,97,98,99,100,101,102,103,104,105,106,107,108] (fun _:Nat=>True) (fun _=>[]) (fun u'=>[(0,⟨1,.c tGw [.bp 3 (u' + 1) 0,I y.cfg.epoch,ms none y.cfg.members,.bp 6 (u' + 1) 0,I (y.ask 0),I (y.ask 1),I (y.ask 2),I (y.ask 3)]⟩),(1,⟨u' + 1,.m (keyN y.ends.sent) (rowN y.ends.sent) none none⟩),(2,⟨u' + 1,.m (keyW y.ends.wins) (rowW y.ends.wins) none none⟩),(3,⟨u' + 1,.c tEn [B true,bs none y.ends.root,I y.ends.who,I y.ends.boot,.hd 1 (u' + 1),.hd 2 (u' + 1)]⟩),(4,⟨u' + 1,.r tIn 1 (wKs y.wt)⟩),(5,⟨u' + 1,.m (wKv y.wt) (wVs y.wt) none none⟩),(6,⟨u' + 1,.c tPl [I 4,.hd 4 (u' + 1),.hd 5 (u' + 1)]⟩),(8,⟨1,.c tS4 (sC (y.note bd a))⟩)]) ?_ ?_
  ·by_cases hk:a.kind=0∨a.kind=1
   ·obtain ⟨b0,b1,k0,k1,hb⟩:∃ b0 b1,(a.kind == 0)=b0∧(a.kind == 1)=b1∧((b0,b1)=(true,false)∨(b0,b1)=(false,true)):=by
     rcases hk with hk|hk<;>rw [hk]
     ·exact ⟨true,false,rfl,rfl,.inl rfl⟩
     ·exact ⟨false,true,rfl,rfl,.inr rfl⟩
    by_cases hc:a.client < 0
    ·have s1:decide (0≤a.client)=false:=decide_eq_false (by omega);rw [show y.note bd a=bd from if_neg fun h=>by omega]
     rcases hb with hb|hb<;>cases hb <;>
      (repeat' (first|((first|((with_reducible apply AP.k_any);first|refine AP.ST ?_|(refine AP.Y ?_;dsimp only)|refine AP.G (fun hg=>?_) (fun hg=>?_)|(refine AP.V (fun c hnil=>?_);simp only [nz])|refine AP.PF ?_)|((with_reducible apply DW.k_any);first|refine DW.ST ?_))<;>(try simp only [k0,k1,s1,nq,Nat.reduceBEq,Nat.reduceAdd,Nat.reduceSub]))|refine CP.TL ?_|((with_reducible apply CP.k_drw);refine cp_drwX fun Q' hQ'=>?_)|((with_reducible apply CP.k_reg);refine cp_regG fun Q' hQ'=>?_)|((with_reducible apply CP.k_cond);refine cp_cond rfl (fun hc=>?_) (fun hc=>?_))|(simp only [List.append_eq,List.cons_append,List.nil_append]))
       exact ⟨u,trivial,by exact Gh.W⟩)
    have s1:decide (0≤a.client)=true:=decide_eq_true (by omega)
    by_cases hc4:a.client < 4
    rotate_left
    ·have s2:decide (a.client < 4)=false:=decide_eq_false hc4;rw [show y.note bd a=bd from if_neg fun h=>by omega]
     rcases hb with hb|hb<;>cases hb <;>
      (repeat' (first|((first|((with_reducible apply AP.k_any);first|refine AP.ST ?_|(refine AP.Y ?_;dsimp only)|refine AP.G (fun hg=>?_) (fun hg=>?_)|(refine AP.V (fun c hnil=>?_);simp only [nz])|refine AP.PF ?_)|((with_reducible apply DW.k_any);first|refine DW.ST ?_))<;>(try simp only [k0,k1,s1,s2,nq,Nat.reduceBEq,Nat.reduceAdd,Nat.reduceSub]))|refine CP.TL ?_|((with_reducible apply CP.k_drw);refine cp_drwX fun Q' hQ'=>?_)|((with_reducible apply CP.k_reg);refine cp_regG fun Q' hQ'=>?_)|((with_reducible apply CP.k_cond);refine cp_cond rfl (fun hc=>?_) (fun hc=>?_))|(simp only [List.append_eq,List.cons_append,List.nil_append]))
       exact ⟨u,trivial,by exact Gh.W⟩)
    have s2:decide (a.client < 4)=true:=decide_eq_true hc4;have h4:=gwaits_ac y _ hok.g a.client;have hws:=waits_some y a.client
    cases hw:wGet y.wt a.client with
    | some r0=>
     rw [hws,hw] at h4;dsimp only [Option.isSome] at h4;rw [show y.note bd a=bd from if_neg fun h=>by rw [hw] at h;cases h.2.2.2.1]
     rcases hb with hb|hb<;>cases hb <;>
      (repeat' (first|((first|((with_reducible apply AP.k_any);first|refine AP.ST ?_|(refine AP.Y ?_;dsimp only)|refine AP.G (fun hg=>?_) (fun hg=>?_)|(refine AP.V (fun c hnil=>?_);simp only [nz])|((with_reducible apply AP.k_any);refine AP.B 0 (h4) ?_)|refine AP.PF ?_)|((with_reducible apply DW.k_any);first|refine DW.ST ?_)|((with_reducible apply DW.k_any);first|refine DW.R ?_|refine DW.R' ?_|refine DW.W ?_|refine DW.W' ?_|(refine DW.known rfl ?_;(with_reducible first|apply DW.sx 2);(iterate 2 (focus (simp only [ft,nm,Nat.reduceAdd,Nat.reduceBEq,List.getElem?_cons_zero,List.getElem?_cons_succ];exact rfl)));(focus (intro X V;simp only [ft,nm,Nat.reduceAdd,Nat.reduceBEq];(try (refine AP.Y ?_;dsimp only));(first|((with_reducible apply AP.k_any);refine AP.B 0 (h4) ?_)|fail);(try refine NX ?_);refine AP.nil ?_;(first|refine ⟨trivial,rfl,?_⟩|refine ⟨rfl,rfl,?_⟩);(repeat' (first|exact Mg.nil|apply Mg.keep rfl|apply Mg.take rfl));done));(focus (refine Exists.intro (fun _=>0) ?_;apply Exists.intro;(repeat' (first|exact Mg.nil|apply Mg.keep rfl|apply Mg.take rfl));done));(iterate 2 (focus (exact rfl))))))<;>(try simp only [k0,k1,s1,s2,nq,Nat.reduceBEq,Nat.reduceAdd,Nat.reduceSub]))|refine CP.TL ?_|((with_reducible apply CP.k_drw);refine cp_drwX fun Q' hQ'=>?_)|((with_reducible apply CP.k_reg);refine cp_regG fun Q' hQ'=>?_)|((with_reducible apply CP.k_cond);refine cp_cond rfl (fun hc=>?_) (fun hc=>?_))|(simp only [List.append_eq,List.cons_append,List.nil_append]))
       exact ⟨u + 1,trivial,by exact Gh.W⟩)
    | none=>
     rw [hws,hw] at h4;dsimp only [Option.isSome] at h4
     by_cases hbl:a.body.length≤1024
     ·have s3:decide ((a.body.length:Int)≤1024)=true:=decide_eq_true (by omega);have hnt:y.note bd a=updB bd a.client.toNat a.body:=if_pos ⟨hk,by omega,hc4,hw,hbl⟩;rw [hnt];obtain ⟨c,hcl⟩:∃ c:Nat,a.client=c:=⟨a.client.toNat,by omega⟩;rw [hcl] at h4 s1 s2 ⊢;have hc4':c < 4:=by omega
      have l8:=sC_at bd hc4';have n8:=sC_len bd;have w8:(sC bd).set c (S a.body)=sC (updB bd (c:Int).toNat a.body):=sC_set bd c a.body
      rcases hb with hb|hb<;>cases hb <;>
       (repeat' (first|((first|((with_reducible apply AP.k_any);first|refine AP.ST ?_|(refine AP.Y ?_;dsimp only)|refine AP.G (fun hg=>?_) (fun hg=>?_)|(refine AP.V (fun c hnil=>?_);simp only [nz])|((with_reducible apply AP.k_any);refine AP.B 0 (h4) ?_)|refine AP.SS ?_|refine AP.PF ?_)|((with_reducible apply DW.k_any);first|refine DW.ST ?_)|((with_reducible apply DW.k_any);first|refine DW.R ?_|refine DW.R' ?_|refine DW.W ?_|refine DW.W' ?_|(refine DW.known rfl ?_;(with_reducible first|apply DW.sx 2);(iterate 2 (focus (simp only [ft,nm,Nat.reduceAdd,Nat.reduceBEq,List.getElem?_cons_zero,List.getElem?_cons_succ];exact rfl)));(focus (intro X V;simp only [ft,nm,Nat.reduceAdd,Nat.reduceBEq];(try (refine AP.Y ?_;dsimp only));(first|((with_reducible apply AP.k_any);refine AP.B 0 (h4) ?_)|refine AP.SS ?_|fail);(try refine NX ?_);refine AP.nil ?_;(first|refine ⟨trivial,rfl,?_⟩|refine ⟨rfl,rfl,?_⟩);(repeat' (first|exact Mg.nil|apply Mg.keep rfl|apply Mg.take rfl));done));(focus (refine Exists.intro (fun _=>0) ?_;apply Exists.intro;(repeat' (first|exact Mg.nil|apply Mg.keep rfl|apply Mg.take rfl));done));(iterate 2 (focus (exact rfl))))))<;>(try simp only [k0,k1,s1,s2,s3,w8,nq,Nat.reduceBEq,Nat.reduceAdd,Nat.reduceSub]))|refine CP.TL ?_|((with_reducible apply CP.k_drw);refine cp_drwX fun Q' hQ'=>?_)|((with_reducible apply CP.k_reg);refine cp_regG fun Q' hQ'=>?_)|((with_reducible apply CP.k_cond);refine cp_cond rfl (fun hc=>?_) (fun hc=>?_))|(simp only [List.append_eq,List.cons_append,List.nil_append]))
        exact ⟨u + 1,trivial,by exact Gh.W⟩)
     ·have s3:decide ((a.body.length:Int)≤1024)=false:=decide_eq_false (by omega);rw [show y.note bd a=bd from if_neg fun h=>hbl h.2.2.2.2]
      rcases hb with hb|hb<;>cases hb <;>
       (repeat' (first|((first|((with_reducible apply AP.k_any);first|refine AP.ST ?_|(refine AP.Y ?_;dsimp only)|refine AP.G (fun hg=>?_) (fun hg=>?_)|(refine AP.V (fun c hnil=>?_);simp only [nz])|((with_reducible apply AP.k_any);refine AP.B 0 (h4) ?_)|refine AP.PF ?_)|((with_reducible apply DW.k_any);first|refine DW.ST ?_)|((with_reducible apply DW.k_any);first|refine DW.R ?_|refine DW.R' ?_|refine DW.W ?_|refine DW.W' ?_|(refine DW.known rfl ?_;(with_reducible first|apply DW.sx 2);(iterate 2 (focus (simp only [ft,nm,Nat.reduceAdd,Nat.reduceBEq,List.getElem?_cons_zero,List.getElem?_cons_succ];exact rfl)));(focus (intro X V;simp only [ft,nm,Nat.reduceAdd,Nat.reduceBEq];(try (refine AP.Y ?_;dsimp only));(first|((with_reducible apply AP.k_any);refine AP.B 0 (h4) ?_)|fail);(try refine NX ?_);refine AP.nil ?_;(first|refine ⟨trivial,rfl,?_⟩|refine ⟨rfl,rfl,?_⟩);(repeat' (first|exact Mg.nil|apply Mg.keep rfl|apply Mg.take rfl));done));(focus (refine Exists.intro (fun _=>0) ?_;apply Exists.intro;(repeat' (first|exact Mg.nil|apply Mg.keep rfl|apply Mg.take rfl));done));(iterate 2 (focus (exact rfl))))))<;>(try simp only [k0,k1,s1,s2,s3,nq,Nat.reduceBEq,Nat.reduceAdd,Nat.reduceSub]))|refine CP.TL ?_|((with_reducible apply CP.k_drw);refine cp_drwX fun Q' hQ'=>?_)|((with_reducible apply CP.k_reg);refine cp_regG fun Q' hQ'=>?_)|((with_reducible apply CP.k_cond);refine cp_cond rfl (fun hc=>?_) (fun hc=>?_))|(simp only [List.append_eq,List.cons_append,List.nil_append]))
        exact ⟨u + 1,trivial,by exact Gh.W⟩)
   ·have k0:(a.kind == 0)=false:=by simpa using fun h=>hk (.inl h)
    have k1:(a.kind == 1)=false:=by simpa using fun h=>hk (.inr h)
    rw [show y.note bd a=bd from if_neg fun h=>hk h.1]
    repeat' (first|((first|((with_reducible apply AP.k_any);first|refine AP.ST ?_|(refine AP.Y ?_;dsimp only)|refine AP.G (fun hg=>?_) (fun hg=>?_)|(refine AP.V (fun c hnil=>?_);simp only [nz])|refine AP.PF ?_)|((with_reducible apply DW.k_any);first|refine DW.ST ?_))<;>(try simp only [k0,k1,nq,Nat.reduceBEq,Nat.reduceAdd,Nat.reduceSub]))|refine CP.TL ?_|((with_reducible apply CP.k_drw);refine cp_drwX fun Q' hQ'=>?_)|((with_reducible apply CP.k_reg);refine cp_regG fun Q' hQ'=>?_)|((with_reducible apply CP.k_cond);refine cp_cond rfl (fun hc=>?_) (fun hc=>?_))|(simp only [List.append_eq,List.cons_append,List.nil_append]))
    exact ⟨u,trivial,by exact Gh.W⟩
  intro u' _;simp only [setT,deT,setB,List.set_cons_succ,List.set_cons_zero];have h3:=do_ac ⟨y,P⟩ _ a hok (by omega) (by omega) hfa;have hok2:=(hok.act a).1;obtain ⟨z1,z2,z3,z4⟩:=hok.sn (by omega) hro a;have hbd2:=hbd.act hok a;dsimp only at hbd2;generalize y.note bd a=bd2 at *;generalize Gs.act ⟨y,P⟩ a=R at *;obtain ⟨⟨an,out⟩,⟨y2,P2⟩⟩:=R;dsimp only at h3 hok2 z1 z2 z3 z4 hbd2;obtain ⟨_,_,c2,c5⟩:=mayC_of hok2.g.g.c;have hy2:y2.ok (4 * i + 4):=hok2.g;have hcnt:=hy2.cnt;dsimp only at c2 c5;have h5:=gconfig_ac y2 (by omega);have hol:out.length≤4:=by have:=hy2.l;omega
  repeat' (first|((first|((with_reducible apply AP.k_any);first|refine AP.ST ?_|(refine AP.Y ?_;dsimp only)|refine AP.G (fun hg=>?_) (fun hg=>?_)|(refine AP.V (fun c hnil=>?_);simp only [nz])|((with_reducible apply AP.k_any);refine AP.B 0 (h3) ?_)|refine AP.PF ?_)|((with_reducible apply DW.k_any);first|refine DW.ST ?_)|((with_reducible apply DW.k_any);first|refine DW.R ?_|refine DW.R' ?_|refine DW.W ?_|refine DW.W' ?_|(refine DW.known rfl ?_;(with_reducible first|apply DW.sx 2);(iterate 2 (focus (simp only [ft,nm,Nat.reduceAdd,Nat.reduceBEq,List.getElem?_cons_zero,List.getElem?_cons_succ];exact rfl)));(focus (intro X V;simp only [ft,nm,Nat.reduceAdd,Nat.reduceBEq];(try (refine AP.Y ?_;dsimp only));(first|((with_reducible apply AP.k_any);refine AP.B 0 (h3) ?_)|fail);(try refine NX ?_);refine AP.nil ?_;(first|refine ⟨trivial,rfl,?_⟩|refine ⟨rfl,rfl,?_⟩);(repeat' (first|exact Mg.nil|apply Mg.keep rfl|apply Mg.take rfl));done));(focus (refine Exists.intro (fun _=>0) ?_;apply Exists.intro;(repeat' (first|exact Mg.nil|apply Mg.keep rfl|apply Mg.take rfl));done));(iterate 2 (focus (exact rfl))))))<;>(try simp only [nq,Nat.reduceBEq,Nat.reduceAdd,Nat.reduceSub]))|refine CP.TL ?_|((with_reducible apply CP.k_drw);refine cp_drwX fun Q' hQ'=>?_)|((with_reducible apply CP.k_reg);refine cp_regG fun Q' hQ'=>?_)|((with_reducible apply CP.k_cond);refine cp_cond rfl (fun hc=>?_) (fun hc=>?_))|(simp only [List.append_eq,List.cons_append,List.nil_append]))
  refine cp_loopS [17,18,19,20,116,117,118,119,120,121,122,123,124,125,126,127,128] (fun c:Nat=>4 - c) (fun c=>c≤4) (fun c=>[(18,I c),(17,I (y2.cnt c))])
   (fun c=>[(0,⟨1,.c tGw [.bp 3 (u' + 2 + c) 0,I y2.cfg.epoch,ms none y2.cfg.members,.bp 6 (u' + 2 + c) 0,I (y2.ask 0),I (y2.ask 1),I (y2.ask 2),I (y2.ask 3)]⟩),(1,⟨u' + 2 + c,.m (keyN y2.ends.sent) (rowN y2.ends.sent) none none⟩),(2,⟨u' + 2 + c,.m (keyW y2.ends.wins) (rowW y2.ends.wins) none none⟩),(3,⟨u' + 2 + c,.c tEn [B true,bs none y2.ends.root,I y2.ends.who,I y2.ends.boot,.hd 1 (u' + 2 + c),.hd 2 (u' + 2 + c)]⟩),(4,⟨u' + 2 + c,.r tIn 1 (wKs y2.wt)⟩),(5,⟨u' + 2 + c,.m (wKv y2.wt) (wVs y2.wt) none none⟩),(6,⟨u' + 2 + c,.c tPl [I 4,.hd 4 (u' + 2 + c),.hd 5 (u' + 2 + c)]⟩)]) 0 (Nat.zero_le _) (by exact Gh.W) ?_
  rintro c hc;simp only [setT,deT,setB,List.set_cons_succ,List.set_cons_zero]
  by_cases hlt:c < 4
  ·have r1:decide ((c:Int) < 4)=true:=by simp;omega
   have r2:IntKind.i64.wrap ((c:Int) + 1)=((c + 1:Nat):Int):=wrap_i64 (by omega) (by omega);have h2:=gwaits_ac y2 _ hy2 c;have hcl:=y2.cnt_le c
   cases hw:(y2.waits c).2 with
   | true=>
    rw [hw] at h2;have e:y2.cnt (c + 1)=y2.cnt c + 1:=by show y2.cnt c + (if (y2.waits (c:Int)).2=true then 1 else 0)=_;rw [if_pos hw]
    have r3:IntKind.i64.wrap ((y2.cnt c:Int) + 1)=((y2.cnt (c + 1):Nat):Int):=by rw [wrap_i64 (by omega) (by omega),e];omega
    repeat' (first|((first|((with_reducible apply AP.k_any);first|refine AP.ST ?_|(refine AP.Y ?_;dsimp only)|refine AP.G (fun hg=>?_) (fun hg=>?_)|(refine AP.V (fun c hnil=>?_);simp only [nz])|((with_reducible apply AP.k_any);refine AP.B 0 (h2) ?_)|refine AP.PF ?_)|((with_reducible apply DW.k_any);first|refine DW.ST ?_)|((with_reducible apply DW.k_any);first|refine DW.R ?_|refine DW.R' ?_|refine DW.W ?_|refine DW.W' ?_|(refine DW.known rfl ?_;(with_reducible first|apply DW.sx 2);(iterate 2 (focus (simp only [ft,nm,Nat.reduceAdd,Nat.reduceBEq,List.getElem?_cons_zero,List.getElem?_cons_succ];exact rfl)));(focus (intro X V;simp only [ft,nm,Nat.reduceAdd,Nat.reduceBEq];(try (refine AP.Y ?_;dsimp only));(first|((with_reducible apply AP.k_any);refine AP.B 0 (h2) ?_)|fail);(try refine NX ?_);refine AP.nil ?_;(first|refine ⟨trivial,rfl,?_⟩|refine ⟨rfl,rfl,?_⟩);(repeat' (first|exact Mg.nil|apply Mg.keep rfl|apply Mg.take rfl));done));(focus (refine Exists.intro (fun _=>0) ?_;apply Exists.intro;(repeat' (first|exact Mg.nil|apply Mg.keep rfl|apply Mg.take rfl));done));(iterate 2 (focus (exact rfl))))))<;>(try simp only [r1,r2,r3,nq,Nat.reduceBEq,Nat.reduceAdd,Nat.reduceSub]))|refine CP.TL ?_|((with_reducible apply CP.k_drw);refine cp_drwX fun Q' hQ'=>?_)|((with_reducible apply CP.k_reg);refine cp_regG fun Q' hQ'=>?_)|((with_reducible apply CP.k_cond);refine cp_cond rfl (fun hc=>?_) (fun hc=>?_))|(simp only [List.append_eq,List.cons_append,List.nil_append]))
    exact ⟨c + 1,by omega,by omega,by exact Gh.W⟩
   | false=>
    rw [hw] at h2;have e:y2.cnt (c + 1)=y2.cnt c:=by show y2.cnt c + (if (y2.waits (c:Int)).2=true then 1 else 0)=_;rw [if_neg (by rw [hw];decide)];rfl
    rw [←e]
    repeat' (first|((first|((with_reducible apply AP.k_any);first|refine AP.ST ?_|(refine AP.Y ?_;dsimp only)|refine AP.G (fun hg=>?_) (fun hg=>?_)|(refine AP.V (fun c hnil=>?_);simp only [nz])|((with_reducible apply AP.k_any);refine AP.B 0 (h2) ?_)|refine AP.PF ?_)|((with_reducible apply DW.k_any);first|refine DW.ST ?_)|((with_reducible apply DW.k_any);first|refine DW.R ?_|refine DW.R' ?_|refine DW.W ?_|refine DW.W' ?_|(refine DW.known rfl ?_;(with_reducible first|apply DW.sx 2);(iterate 2 (focus (simp only [ft,nm,Nat.reduceAdd,Nat.reduceBEq,List.getElem?_cons_zero,List.getElem?_cons_succ];exact rfl)));(focus (intro X V;simp only [ft,nm,Nat.reduceAdd,Nat.reduceBEq];(try (refine AP.Y ?_;dsimp only));(first|((with_reducible apply AP.k_any);refine AP.B 0 (h2) ?_)|fail);(try refine NX ?_);refine AP.nil ?_;(first|refine ⟨trivial,rfl,?_⟩|refine ⟨rfl,rfl,?_⟩);(repeat' (first|exact Mg.nil|apply Mg.keep rfl|apply Mg.take rfl));done));(focus (refine Exists.intro (fun _=>0) ?_;apply Exists.intro;(repeat' (first|exact Mg.nil|apply Mg.keep rfl|apply Mg.take rfl));done));(iterate 2 (focus (exact rfl))))))<;>(try simp only [r1,r2,nq,Nat.reduceBEq,Nat.reduceAdd,Nat.reduceSub]))|refine CP.TL ?_|((with_reducible apply CP.k_drw);refine cp_drwX fun Q' hQ'=>?_)|((with_reducible apply CP.k_reg);refine cp_regG fun Q' hQ'=>?_)|((with_reducible apply CP.k_cond);refine cp_cond rfl (fun hc=>?_) (fun hc=>?_))|(simp only [List.append_eq,List.cons_append,List.nil_append]))
    exact ⟨c + 1,by omega,by omega,by exact Gh.W⟩
  obtain rfl:c=4:=by omega
  have r1:decide (((4:Nat):Int) < 4)=false:=rfl;have t9:decide ((y2.cnt 4:Int) < (out.length:Int))=false:=decide_eq_false (by omega)
  obtain ⟨b6,t6,t7⟩:∃ b6,(a.kind == 6)=b6∧(b6=true→((out.length:Int) != (y2.cnt 4:Int))=false):=by
   refine ⟨_,rfl,fun h=>?_⟩;have:=z4 (by simpa using h);simp;omega
  obtain ⟨m0,M,hM⟩:∃ m0 M,y2.cfg.members=m0 :: M:=by
   cases hm:y2.cfg.members with
   | nil=>rw [hm] at c2;simp at c2
   | cons m0 M=>exact ⟨m0,M,rfl⟩
  have hhd:cHead y2.cfg=m0.node:=by
   have e:cHead y2.cfg=(y2.cfg.members.headD mem0).node:=if_pos hok2.g.g.c;rw [e,hM];rfl
  have l0:(y2.cfg.members.map eM)[0]? = some (eM m0):=by rw [hM];rfl
  have e4:((y2.cfg.members.length:Int) == 0)=false:=by rw [beq_eq_false_iff_ne];omega
  cases b6 with
  | true=>
   have t8:=t7 rfl
   repeat' (first|((first|((with_reducible apply AP.k_any);first|refine AP.ST ?_|(refine AP.Y ?_;dsimp only)|refine AP.G (fun hg=>?_) (fun hg=>?_)|(refine AP.V (fun c hnil=>?_);simp only [nz])|((with_reducible apply AP.k_any);refine AP.B 0 (h5) ?_)|refine AP.PF ?_)|((with_reducible apply DW.k_any);first|refine DW.ST ?_)|((with_reducible apply DW.k_any);first|refine DW.R ?_|refine DW.R' ?_|refine DW.W ?_|refine DW.W' ?_|(refine DW.known rfl ?_;(with_reducible first|apply DW.sx 2);(iterate 2 (focus (simp only [ft,nm,Nat.reduceAdd,Nat.reduceBEq,List.getElem?_cons_zero,List.getElem?_cons_succ];exact rfl)));(focus (intro X V;simp only [ft,nm,Nat.reduceAdd,Nat.reduceBEq];(try (refine AP.Y ?_;dsimp only));(first|((with_reducible apply AP.k_any);refine AP.B 0 (h5) ?_)|fail);(try refine NX ?_);refine AP.nil ?_;(first|refine ⟨trivial,rfl,?_⟩|refine ⟨rfl,rfl,?_⟩);(repeat' (first|exact Mg.nil|apply Mg.keep rfl|apply Mg.take rfl));done));(focus (refine Exists.intro (fun _=>0) ?_;apply Exists.intro;(repeat' (first|exact Mg.nil|apply Mg.keep rfl|apply Mg.take rfl));done));(iterate 2 (focus (exact rfl))))))<;>(try simp only [r1,t6,t8,t9,nq,Nat.reduceBEq,Nat.reduceAdd,Nat.reduceSub]))|refine CP.TL ?_|((with_reducible apply CP.k_drw);refine cp_drwX fun Q' hQ'=>?_)|((with_reducible apply CP.k_reg);refine cp_regG fun Q' hQ'=>?_)|((with_reducible apply CP.k_cond);refine cp_cond rfl (fun hc=>?_) (fun hc=>?_))|(simp only [List.append_eq,List.cons_append,List.nil_append]))
   refine cp_loopS [6,22,23,24,25,26,27,28,146,147,148,149,150,151,152,153,154,155,156,157,158,159,160,161,162,163,164,165,166,167,168,169,170,171,172,173,174,175,176,177,178,179,180,181,182,183,184,185,186,187,188,189,190,191,192,193,194,195,196,197,198,199,200,201,202,203,204,205,206,207,208,209,210,211,212,213,214,215,216,217,218,219,220,221,222,223,224,225,226,227,228,229,230,231,232,233,234,235] (fun k:Nat=>out.length - k) (fun k=>k≤out.length) (fun k=>[(22,I k)])
    (fun k=>[(0,⟨1,.c tGw [.bp 3 (u' + 6 + k + 1) 0,I y2.cfg.epoch,ms none y2.cfg.members,.bp 6 (u' + 6 + k + 1) 0,I (y2.ask 0),I (y2.ask 1),I (y2.ask 2),I (y2.ask 3)]⟩),(1,⟨u' + 6 + k + 1,.m (keyN y2.ends.sent) (rowN y2.ends.sent) none none⟩),(2,⟨u' + 6 + k + 1,.m (keyW y2.ends.wins) (rowW y2.ends.wins) none none⟩),(3,⟨u' + 6 + k + 1,.c tEn [B true,bs none y2.ends.root,I y2.ends.who,I y2.ends.boot,.hd 1 (u' + 6 + k + 1),.hd 2 (u' + 6 + k + 1)]⟩),(4,⟨u' + 6 + k + 1,.r tIn 1 (wKs y2.wt)⟩),(5,⟨u' + 6 + k + 1,.m (wKv y2.wt) (wVs y2.wt) none none⟩),(6,⟨u' + 6 + k + 1,.c tPl [I 4,.hd 4 (u' + 6 + k + 1),.hd 5 (u' + 6 + k + 1)]⟩),(12,⟨v + k,.x⟩),(13,⟨v + k,.x⟩)]) 0 (Nat.zero_le _) (by exact Gh.W) ?_
   intro k hk;simp only [setT,deT,setB,List.set_cons_succ,List.set_cons_zero]
   by_cases hkl:k < out.length
   ·have r2:decide ((k:Int) < (out.length:Int))=true:=by simp;omega
    have r3:IntKind.i64.wrap ((k:Int) + 1)=((k + 1:Nat):Int):=wrap_i64 (by omega) (by omega);have hS:(out.map eS)[k]? = some (eS out[k]):=by rw [List.getElem?_map,List.getElem?_eq_getElem hkl];rfl
    obtain ⟨w,s,r,hw4,hwg,hask,hlen,hP,hM2,hfl,hrl⟩:=asks_read hy2 (by omega) (z2 _ (List.getElem_mem hkl));generalize out[k]=b at *;have k1:=parseP_ac b (by omega);have k2:=parse_ac (formM (y2.msg w)) (by omega);have k3:=right_ac root { y2.pq w s with tag:=tagS root (y2.pq w s) } (by omega) (by show (formM (y2.msg w)).length≤_;omega) (tagS_len _ _);have k4:=gwaits_ac y2 _ hy2 w;have ew:y2.waits w=(y2.ask w,true):=by unfold Gw.waits;rw [hwg];rfl
    rw [ew] at k4;rw [hP] at k1;rw [hM2] at k2;obtain ⟨q,hq⟩:∃ q,q=({ y2.pq w s with tag:=tagS root (y2.pq w s) }:Pkt):=⟨_,rfl⟩;have f1:(q.frm != 8)=false:=by rw [hq];rfl
    have f2:(q.epoch != y2.cfg.epoch)=false:=by rw [hq];simp [Gw.pq]
    have f3:(q.to != m0.node)=false:=by rw [hq];simp [Gw.pq,hhd]
    have f4:q.body=formM (y2.msg w):=by rw [hq];rfl
    rw [←hq] at k1 k3;have ht:q.tag=tagS root q:=by rw [hq];exact (tagS_tag root (y2.pq w s) _).symm
    rw [decide_eq_true ht] at k3;rw [←f4] at k2;obtain ⟨m,hm⟩:∃ m,m=y2.msg w:=⟨_,rfl⟩;have g1:m.client=(w:Int):=by rw [hm];rfl
    have g2:(((m.kind.toNat:Int)) != 1)=false:=by rw [hm];rfl
    have g3:(y2.ask w != m.id)=false:=by rw [hm];simp [Gw.msg]
    have g4:decide (m.body=bd2 w)=true:=by
     rw [decide_eq_true_eq,hm];show (wGet y2.wt w).getD []=_;rw [hwg,hbd2 w r hw4 hwg];rfl
    rw [←hm] at k2;dsimp only at k1 k2;have l8:=sC_at bd2 hw4;have n8:=sC_len bd2;clear hP hM2 hq hm f4 ht
    repeat' (first|((first|((with_reducible apply AP.k_any);first|refine AP.ST ?_|(refine AP.Y ?_;dsimp only)|refine AP.G (fun hg=>?_) (fun hg=>?_)|(refine AP.V (fun c hnil=>?_);simp only [nz])|((with_reducible apply AP.k_any);refine AP.C (k1) ?_)|((with_reducible apply AP.k_any);refine AP.C (k2) ?_)|((with_reducible apply AP.k_any);refine AP.C (k3) ?_)|((with_reducible apply AP.k_any);refine AP.B 0 (k4) ?_)|refine AP.SS ?_|refine AP.PF ?_)|((with_reducible apply DW.k_any);first|refine DW.ST ?_)|((with_reducible apply DW.k_any);first|refine DW.R ?_|refine DW.R' ?_|refine DW.W ?_|refine DW.W' ?_|(refine DW.known rfl ?_;(with_reducible first|apply DW.sx 2);(iterate 2 (focus (simp only [ft,nm,Nat.reduceAdd,Nat.reduceBEq,List.getElem?_cons_zero,List.getElem?_cons_succ];exact rfl)));(focus (intro X V;simp only [ft,nm,Nat.reduceAdd,Nat.reduceBEq];(try (refine AP.Y ?_;dsimp only));(first|((with_reducible apply AP.k_any);refine AP.C (k1) ?_)|((with_reducible apply AP.k_any);refine AP.C (k2) ?_)|((with_reducible apply AP.k_any);refine AP.C (k3) ?_)|((with_reducible apply AP.k_any);refine AP.B 0 (k4) ?_)|refine AP.SS ?_|fail);(try refine NX ?_);refine AP.nil ?_;(first|refine ⟨trivial,rfl,?_⟩|refine ⟨rfl,rfl,?_⟩);(repeat' (first|exact Mg.nil|apply Mg.keep rfl|apply Mg.take rfl));done));(focus (refine Exists.intro (fun _=>0) ?_;apply Exists.intro;(repeat' (first|exact Mg.nil|apply Mg.keep rfl|apply Mg.take rfl));done));(iterate 2 (focus (exact rfl))))))<;>(try simp only [r2,r3,f1,f2,f3,g1,g2,g3,g4,e4,nq,Nat.reduceBEq,Nat.reduceAdd,Nat.reduceSub]))|refine CP.T2 ?_|((with_reducible apply CP.k_drw);refine cp_drwX fun Q' hQ'=>?_)|((with_reducible apply CP.k_reg);refine cp_regG fun Q' hQ'=>?_)|((with_reducible apply CP.k_cond);refine cp_cond rfl (fun hc=>?_) (fun hc=>?_))|(simp only [List.append_eq,List.cons_append,List.nil_append]))
    exact ⟨k + 1,by omega,by omega,by exact Gh.W⟩
   ·obtain rfl:k=out.length:=by omega
    have r2:decide ((out.length:Int) < (out.length:Int))=false:=by simp
    repeat' (first|((first|((with_reducible apply AP.k_any);first|refine AP.ST ?_|(refine AP.Y ?_;dsimp only)|refine AP.G (fun hg=>?_) (fun hg=>?_)|(refine AP.V (fun c hnil=>?_);simp only [nz])|refine AP.PF ?_)|((with_reducible apply DW.k_any);first|refine DW.ST ?_))<;>(try simp only [r2,p2,nq,Nat.reduceBEq,Nat.reduceAdd,Nat.reduceSub]))|refine CP.TL ?_|((with_reducible apply CP.k_drw);refine cp_drwX fun Q' hQ'=>?_)|((with_reducible apply CP.k_reg);refine cp_regG fun Q' hQ'=>?_)|((with_reducible apply CP.k_cond);refine cp_cond rfl (fun hc=>?_) (fun hc=>?_))|(simp only [List.append_eq,List.cons_append,List.nil_append]))
    exact ⟨⟨i + 1,⟨y2,P2⟩,bd2,u' + 6 + out.length,v + out.length⟩,by (dsimp only;omega),⟨by (dsimp only;omega),hok2,z1,hbd2⟩,by exact Gh.W⟩
  | false=>
   repeat' (first|((first|((with_reducible apply AP.k_any);first|refine AP.ST ?_|(refine AP.Y ?_;dsimp only)|refine AP.G (fun hg=>?_) (fun hg=>?_)|(refine AP.V (fun c hnil=>?_);simp only [nz])|((with_reducible apply AP.k_any);refine AP.B 0 (h5) ?_)|refine AP.PF ?_)|((with_reducible apply DW.k_any);first|refine DW.ST ?_)|((with_reducible apply DW.k_any);first|refine DW.R ?_|refine DW.R' ?_|refine DW.W ?_|refine DW.W' ?_|(refine DW.known rfl ?_;(with_reducible first|apply DW.sx 2);(iterate 2 (focus (simp only [ft,nm,Nat.reduceAdd,Nat.reduceBEq,List.getElem?_cons_zero,List.getElem?_cons_succ];exact rfl)));(focus (intro X V;simp only [ft,nm,Nat.reduceAdd,Nat.reduceBEq];(try (refine AP.Y ?_;dsimp only));(first|((with_reducible apply AP.k_any);refine AP.B 0 (h5) ?_)|fail);(try refine NX ?_);refine AP.nil ?_;(first|refine ⟨trivial,rfl,?_⟩|refine ⟨rfl,rfl,?_⟩);(repeat' (first|exact Mg.nil|apply Mg.keep rfl|apply Mg.take rfl));done));(focus (refine Exists.intro (fun _=>0) ?_;apply Exists.intro;(repeat' (first|exact Mg.nil|apply Mg.keep rfl|apply Mg.take rfl));done));(iterate 2 (focus (exact rfl))))))<;>(try simp only [r1,t6,t9,nq,Nat.reduceBEq,Nat.reduceAdd,Nat.reduceSub]))|refine CP.TL ?_|((with_reducible apply CP.k_drw);refine cp_drwX fun Q' hQ'=>?_)|((with_reducible apply CP.k_reg);refine cp_regG fun Q' hQ'=>?_)|((with_reducible apply CP.k_cond);refine cp_cond rfl (fun hc=>?_) (fun hc=>?_))|(simp only [List.append_eq,List.cons_append,List.nil_append]))
   refine cp_loopS [6,22,23,24,25,26,27,28,146,147,148,149,150,151,152,153,154,155,156,157,158,159,160,161,162,163,164,165,166,167,168,169,170,171,172,173,174,175,176,177,178,179,180,181,182,183,184,185,186,187,188,189,190,191,192,193,194,195,196,197,198,199,200,201,202,203,204,205,206,207,208,209,210,211,212,213,214,215,216,217,218,219,220,221,222,223,224,225,226,227,228,229,230,231,232,233,234,235] (fun k:Nat=>out.length - k) (fun k=>k≤out.length) (fun k=>[(22,I k)])
    (fun k=>[(0,⟨1,.c tGw [.bp 3 (u' + 6 + k + 1) 0,I y2.cfg.epoch,ms none y2.cfg.members,.bp 6 (u' + 6 + k + 1) 0,I (y2.ask 0),I (y2.ask 1),I (y2.ask 2),I (y2.ask 3)]⟩),(1,⟨u' + 6 + k + 1,.m (keyN y2.ends.sent) (rowN y2.ends.sent) none none⟩),(2,⟨u' + 6 + k + 1,.m (keyW y2.ends.wins) (rowW y2.ends.wins) none none⟩),(3,⟨u' + 6 + k + 1,.c tEn [B true,bs none y2.ends.root,I y2.ends.who,I y2.ends.boot,.hd 1 (u' + 6 + k + 1),.hd 2 (u' + 6 + k + 1)]⟩),(4,⟨u' + 6 + k + 1,.r tIn 1 (wKs y2.wt)⟩),(5,⟨u' + 6 + k + 1,.m (wKv y2.wt) (wVs y2.wt) none none⟩),(6,⟨u' + 6 + k + 1,.c tPl [I 4,.hd 4 (u' + 6 + k + 1),.hd 5 (u' + 6 + k + 1)]⟩),(12,⟨v + k,.x⟩),(13,⟨v + k,.x⟩)]) 0 (Nat.zero_le _) (by exact Gh.W) ?_
   intro k hk;simp only [setT,deT,setB,List.set_cons_succ,List.set_cons_zero]
   by_cases hkl:k < out.length
   ·have r2:decide ((k:Int) < (out.length:Int))=true:=by simp;omega
    have r3:IntKind.i64.wrap ((k:Int) + 1)=((k + 1:Nat):Int):=wrap_i64 (by omega) (by omega);have hS:(out.map eS)[k]? = some (eS out[k]):=by rw [List.getElem?_map,List.getElem?_eq_getElem hkl];rfl
    obtain ⟨w,s,r,hw4,hwg,hask,hlen,hP,hM2,hfl,hrl⟩:=asks_read hy2 (by omega) (z2 _ (List.getElem_mem hkl));generalize out[k]=b at *;have k1:=parseP_ac b (by omega);have k2:=parse_ac (formM (y2.msg w)) (by omega);have k3:=right_ac root { y2.pq w s with tag:=tagS root (y2.pq w s) } (by omega) (by show (formM (y2.msg w)).length≤_;omega) (tagS_len _ _);have k4:=gwaits_ac y2 _ hy2 w;have ew:y2.waits w=(y2.ask w,true):=by unfold Gw.waits;rw [hwg];rfl
    rw [ew] at k4;rw [hP] at k1;rw [hM2] at k2;obtain ⟨q,hq⟩:∃ q,q=({ y2.pq w s with tag:=tagS root (y2.pq w s) }:Pkt):=⟨_,rfl⟩;have f1:(q.frm != 8)=false:=by rw [hq];rfl
    have f2:(q.epoch != y2.cfg.epoch)=false:=by rw [hq];simp [Gw.pq]
    have f3:(q.to != m0.node)=false:=by rw [hq];simp [Gw.pq,hhd]
    have f4:q.body=formM (y2.msg w):=by rw [hq];rfl
    rw [←hq] at k1 k3;have ht:q.tag=tagS root q:=by rw [hq];exact (tagS_tag root (y2.pq w s) _).symm
    rw [decide_eq_true ht] at k3;rw [←f4] at k2;obtain ⟨m,hm⟩:∃ m,m=y2.msg w:=⟨_,rfl⟩;have g1:m.client=(w:Int):=by rw [hm];rfl
    have g2:(((m.kind.toNat:Int)) != 1)=false:=by rw [hm];rfl
    have g3:(y2.ask w != m.id)=false:=by rw [hm];simp [Gw.msg]
    have g4:decide (m.body=bd2 w)=true:=by
     rw [decide_eq_true_eq,hm];show (wGet y2.wt w).getD []=_;rw [hwg,hbd2 w r hw4 hwg];rfl
    rw [←hm] at k2;dsimp only at k1 k2;have l8:=sC_at bd2 hw4;have n8:=sC_len bd2;clear hP hM2 hq hm f4 ht
    repeat' (first|((first|((with_reducible apply AP.k_any);first|refine AP.ST ?_|(refine AP.Y ?_;dsimp only)|refine AP.G (fun hg=>?_) (fun hg=>?_)|(refine AP.V (fun c hnil=>?_);simp only [nz])|((with_reducible apply AP.k_any);refine AP.C (k1) ?_)|((with_reducible apply AP.k_any);refine AP.C (k2) ?_)|((with_reducible apply AP.k_any);refine AP.C (k3) ?_)|((with_reducible apply AP.k_any);refine AP.B 0 (k4) ?_)|refine AP.SS ?_|refine AP.PF ?_)|((with_reducible apply DW.k_any);first|refine DW.ST ?_)|((with_reducible apply DW.k_any);first|refine DW.R ?_|refine DW.R' ?_|refine DW.W ?_|refine DW.W' ?_|(refine DW.known rfl ?_;(with_reducible first|apply DW.sx 2);(iterate 2 (focus (simp only [ft,nm,Nat.reduceAdd,Nat.reduceBEq,List.getElem?_cons_zero,List.getElem?_cons_succ];exact rfl)));(focus (intro X V;simp only [ft,nm,Nat.reduceAdd,Nat.reduceBEq];(try (refine AP.Y ?_;dsimp only));(first|((with_reducible apply AP.k_any);refine AP.C (k1) ?_)|((with_reducible apply AP.k_any);refine AP.C (k2) ?_)|((with_reducible apply AP.k_any);refine AP.C (k3) ?_)|((with_reducible apply AP.k_any);refine AP.B 0 (k4) ?_)|refine AP.SS ?_|fail);(try refine NX ?_);refine AP.nil ?_;(first|refine ⟨trivial,rfl,?_⟩|refine ⟨rfl,rfl,?_⟩);(repeat' (first|exact Mg.nil|apply Mg.keep rfl|apply Mg.take rfl));done));(focus (refine Exists.intro (fun _=>0) ?_;apply Exists.intro;(repeat' (first|exact Mg.nil|apply Mg.keep rfl|apply Mg.take rfl));done));(iterate 2 (focus (exact rfl))))))<;>(try simp only [r2,r3,f1,f2,f3,g1,g2,g3,g4,e4,nq,Nat.reduceBEq,Nat.reduceAdd,Nat.reduceSub]))|refine CP.T2 ?_|((with_reducible apply CP.k_drw);refine cp_drwX fun Q' hQ'=>?_)|((with_reducible apply CP.k_reg);refine cp_regG fun Q' hQ'=>?_)|((with_reducible apply CP.k_cond);refine cp_cond rfl (fun hc=>?_) (fun hc=>?_))|(simp only [List.append_eq,List.cons_append,List.nil_append]))
    exact ⟨k + 1,by omega,by omega,by exact Gh.W⟩
   ·obtain rfl:k=out.length:=by omega
    have r2:decide ((out.length:Int) < (out.length:Int))=false:=by simp
    repeat' (first|((first|((with_reducible apply AP.k_any);first|refine AP.ST ?_|(refine AP.Y ?_;dsimp only)|refine AP.G (fun hg=>?_) (fun hg=>?_)|(refine AP.V (fun c hnil=>?_);simp only [nz])|refine AP.PF ?_)|((with_reducible apply DW.k_any);first|refine DW.ST ?_))<;>(try simp only [r2,p2,nq,Nat.reduceBEq,Nat.reduceAdd,Nat.reduceSub]))|refine CP.TL ?_|((with_reducible apply CP.k_drw);refine cp_drwX fun Q' hQ'=>?_)|((with_reducible apply CP.k_reg);refine cp_regG fun Q' hQ'=>?_)|((with_reducible apply CP.k_cond);refine cp_cond rfl (fun hc=>?_) (fun hc=>?_))|(simp only [List.append_eq,List.cons_append,List.nil_append]))
    exact ⟨⟨i + 1,⟨y2,P2⟩,bd2,u' + 6 + out.length,v + out.length⟩,by (dsimp only;omega),⟨by (dsimp only;omega),hok2,z1,hbd2⟩,by exact Gh.W⟩
 ·obtain rfl:i=L.length:=by omega
  have p1:decide ((L.length:Int) < (L.length:Int))=false:=by simp
  repeat' (first|((first|((with_reducible apply AP.k_any);first|refine AP.ST ?_|(refine AP.Y ?_;dsimp only)|refine AP.G (fun hg=>?_) (fun hg=>?_)|(refine AP.V (fun c hnil=>?_);simp only [nz])|refine AP.PF ?_)|((with_reducible apply DW.k_any);first|refine DW.ST ?_))<;>(try simp only [p1,nq,Nat.reduceBEq,Nat.reduceAdd,Nat.reduceSub]))|refine CP.TL ?_|((with_reducible apply CP.k_drw);refine cp_drwX fun Q' hQ'=>?_)|((with_reducible apply CP.k_reg);refine cp_regG fun Q' hQ'=>?_)|((with_reducible apply CP.k_cond);refine cp_cond rfl (fun hc=>?_) (fun hc=>?_))|(simp only [List.append_eq,List.cons_append,List.nil_append]))
  (exact RetQ.A [] (by exact ⟨rfl,rfl⟩))
theorem sends_ac (root:List UInt8) (nodes:Int) (L:List Ga) (haw:AC Tryz.prog 13 [] [] (fun v bs'=>v=B true∧bs'=[])) (hl:L.length≤100000000) (hs:∀ a∈L,a.small):AC Tryz.prog 5 [bs none root,I nodes,gaS L] [] (fun v bs'=>v=B true∧bs'=[]):=by
 by_cases h:100 < root.length∨nodes < 1∨5 < nodes∨great27 L=true
 ·exact sends_big root nodes L haw hl hs h
 ·obtain ⟨k,rfl⟩:∃ k:Nat,nodes=k:=⟨nodes.toNat,by omega⟩
  have hg:great27 L=false:=by
   cases hg:great27 L with
   | false=>rfl
   | true=>exact absurd (.inr (.inr (.inr hg))) h
  exact sends_go root k L haw hl hs (by omega) (by omega) (by omega) hg
end Go.Proofs.YtifebijohmlnbaaGreat
