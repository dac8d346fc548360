/-
  Texts joined: Y14.
-/
import Derived.Test.YtifebijohmlnbaaGreatZS1
import Derived.Test.YtifebijohmlnbaaGreatZS2
import Derived.Test.YtifebijohmlnbaaGreatZS3
import Derived.Test.YtifebijohmlnbaaGreatZS4
import Derived.Test.YtifebijohmlnbaaGreatZS5
import Derived.Test.YtifebijohmlnbaaGreatZS6
namespace Go.Proofs.YtifebijohmlnbaaGreat
set_option linter.unusedVariables false
set_option linter.unusedSimpArgs false
open Go.RowKit
set_option maxRecDepth 100000
set_option maxHeartbeats 8000000
theorem got_body (x:Ends) (b:List UInt8) {k:Nat} (h:b.length≤k):(x.get b).1.1.body.length≤k:=by
 unfold Ends.get;dsimp only
 repeat' split
 all_goals first
  | exact Nat.zero_le _
  | exact parseP_body b h
theorem parseM_kind {b:List UInt8} (h:(parseM b).2=0):(parseM b).1.kind=1∨(parseM b).1.kind=2∨(parseM b).1.kind=3∨(parseM b).1.kind=4∨(parseM b).1.kind=5∨(parseM b).1.kind=6:=by
 have hm:mayM (parseM b).1=true:=by
  unfold parseM at h ⊢;split at h
  ·rename_i hc;rw [if_pos hc];exact hc.2
  ·exact absurd h (by decide)
 rcases kind_cases (parseM b).1.kind with hk|hk|hk|hk|hk|hk|hk
 ·exact .inl (UInt8.toNat_inj.1 hk)
 ·exact .inr (.inl (UInt8.toNat_inj.1 hk))
 ·exact .inr (.inr (.inl (UInt8.toNat_inj.1 hk)))
 ·exact .inr (.inr (.inr (.inl (UInt8.toNat_inj.1 hk))))
 ·exact .inr (.inr (.inr (.inr (.inl (UInt8.toNat_inj.1 hk)))))
 ·exact .inr (.inr (.inr (.inr (.inr (UInt8.toNat_inj.1 hk)))))
 ·exfalso;unfold mayM at hm;split at hm<;>first|omega|exact absurd hm (by decide)
theorem byt_le {st:St} {k:Nat} (h:st.2.length≤k):(bytesR st).1.length≤k:=by
 have h2:(lenR st).2.2.length≤k:=takeS_len h;unfold bytesR takeS;split
 ·exact Nat.zero_le _
 split
 ·exact Nat.zero_le _
 rw [if_pos (show (bytesG _).2=true from rfl)]
 show (List.take _ _).length≤k
 rw [List.length_take];omega
theorem parseM_le {b:List UInt8} (hb:b.length≤100000000):(parseM b).1.body.length≤100000000∧(parseM b).1.cfg.members.length≤100000000:=by
 unfold parseM;split
 ·have h0:=byteR_len (newR_le hb);unfold readM takeM;split
  ·exact ⟨byt_le (intR_len (intR_len h0)),Nat.zero_le _⟩
  ·exact ⟨Nat.zero_le _,Nat.zero_le _⟩
  ·exact ⟨Nat.zero_le _,Nat.zero_le _⟩
  ·have hc:=countR_le (m:=5) (st:=(intR (byteR (newR b)).2).2) (by omega);refine ⟨Nat.zero_le _,?_⟩
   show (memsR _ _).1.length≤_
   rw [memsR_fst_len];omega
  ·exact ⟨Nat.zero_le _,Nat.zero_le _⟩
  ·exact ⟨byt_le (intR_len (intR_len h0)),Nat.zero_le _⟩
  ·exact ⟨Nat.zero_le _,Nat.zero_le _⟩
 ·exact ⟨Nat.zero_le _,Nat.zero_le _⟩
theorem Gw.ok.gotb {x:Gw} {n:Nat} (h:x.ok n) (b:List UInt8):({ x with ends:=(x.ends.get b).2 }:Gw).ok n:=by
 obtain ⟨h1,h2,h3,h4⟩:=get_keep x.ends b;refine ⟨⟨h.g.c,?_,h2.trans h.g.w,h3.trans h.g.b⟩,fun s=>?_,h.nd,h.l,h.w,h.a,get_wok b h.s⟩
 ·show (x.ends.get b).2.root.length≤_
  rw [h1];exact h.g.r
 ·show 0≤got s (x.ends.get b).2.sent 0∧got s (x.ends.get b).2.sent 0≤_
  rw [h4];exact h.f s
theorem Gw.come_no (x:Gw) (p:Pkt) {m:Msg} (h1:¬ (m.kind=4∧p.frm=9)) (h2:¬ (m.kind=6∧p.frm < 5)):x.come p m=(([],[],200),x):=by unfold Gw.come;rw [if_neg h1,if_neg h2]
theorem gget_ac (x:Gw) (n:Nat) (b:List UInt8) (h:x.ok n) (hn:n≤1000000) (hb:b.length≤60000):AC Tryz.prog 31 [.bp 0 0 0,bs none b] [gB x] (fun v bs'=>v=.tu [anO (x.get b).1.1,bss none (x.get b).1.2.1,I (x.get b).1.2.2]∧bs'=[gB (x.get b).2]):=by
 have h1:=gnone_ac x;have h2:=get_ac x.ends b hb h.g.r h.s;have hok:=h.gotb b;have hbl:(x.ends.get b).1.1.body.length≤100000000:=Nat.le_trans (got_body x.ends b (Nat.le_refl _)) (by omega);unfold Gw.get;dsimp only;generalize x.ends.get b=R at *;obtain ⟨⟨p,e⟩,E'⟩:=R;dsimp only at *;have h3:=parse_ac p.body hbl
 by_cases he:e=0
 ·subst he;rw [if_neg (by simp)];have q0:((0:Int) != 0)=false:=rfl
  by_cases hf:(parseM p.body).2=0
  ·rw [if_neg (by simp [hf])];have hk:=parseM_kind hf;rw [hf] at h3;have h4:=comings_ac { x with ends:=E' };obtain ⟨l1,l2⟩:=parseM_le hbl;have h5:=onc_ac { x with ends:=E' } n p (parseM p.body).1 hok hn l2;have h6:=onr_ac { x with ends:=E' } n p (parseM p.body).1 hok l1;have h7:=cm1_ac p.frm;have h8:=cm2_ac p.frm;generalize (parseM p.body).1=m at *;obtain ⟨kd,cl,id,bd,up,fr,en,ha,dn,cf,si⟩:=m;dsimp only at *
   have hk':kd=4∨kd=6∨kd=1∨kd=2∨kd=3∨kd=5:=by
    rcases hk with h|h|h|h|h|h<;>simp [h]
   clear hk;rcases hk' with rfl|rfl|rfl|rfl|rfl|rfl
   ·by_cases hp:p.frm=9
    ·have e1:Gw.come ({ x with ends:=E' }:Gw) p ⟨4,cl,id,bd,up,fr,en,ha,dn,cf,si⟩=(([],(({ x with ends:=E' }:Gw).onc p ⟨4,cl,id,bd,up,fr,en,ha,dn,cf,si⟩).1.1,(({ x with ends:=E' }:Gw).onc p ⟨4,cl,id,bd,up,fr,en,ha,dn,cf,si⟩).1.2),(({ x with ends:=E' }:Gw).onc p ⟨4,cl,id,bd,up,fr,en,ha,dn,cf,si⟩).2):=if_pos ⟨rfl,hp⟩;rw [e1];generalize Gw.onc _ _ _=R at *;obtain ⟨⟨out,f⟩,y⟩:=R;dsimp only at *;have q1:(p.frm == 9)=true:=by simpa using hp
     rw [q1] at h7;clear h6 h8 e1;refine AC.N Tryz.func31 Tryz.ntmps31 ?_;intro X hρ hmks;refine NX ?_;iterate 3 refine CP.SL ?_
     repeat' (first|((first|((with_reducible apply AP.k_any);first|refine AP.ST ?_|(refine AP.Y ?_;dsimp only)|refine AP.G (fun hg=>?_) (fun hg=>?_)|(refine AP.V (fun c hnil=>?_);simp only [nz])|refine AP.PF ?_)|((with_reducible apply DW.k_any);first|refine DW.ST ?_))<;>(try simp only [q0,nq,Nat.reduceBEq,Nat.reduceAdd,Nat.reduceSub]))|refine CP.TL ?_|((with_reducible apply CP.k_drw);refine cp_drwX fun Q' hQ'=>?_)|((with_reducible apply CP.k_reg);refine cp_regG fun Q' hQ'=>?_)|((with_reducible apply CP.k_cond);refine cp_cond rfl (fun hc=>?_) (fun hc=>?_))|(simp only [List.append_eq,List.cons_append,List.nil_append]))
     refine DW.IA ?_;simp only [nq,Nat.reduceBEq,Nat.reduceAdd,Nat.reduceSub]
     repeat' (first|((first|((with_reducible apply AP.k_any);first|fail|((with_reducible apply AP.k_any);refine AP.FC ?_)|refine AP.ST ?_|(refine AP.Y ?_;dsimp only)|refine AP.G (fun hg=>?_) (fun hg=>?_)|(refine AP.V (fun c hnil=>?_);simp only [nz])|refine AP.PF ?_)|((with_reducible apply DW.k_any);first|refine DW.ST ?_)|((with_reducible apply DW.k_any);first|refine DW.R ?_|refine DW.R' ?_|refine DW.W ?_|refine DW.W' ?_|(refine DW.known rfl ?_;(with_reducible first|apply DW.sx 2);(iterate 2 (focus (simp only [ft,nm,Nat.reduceAdd,Nat.reduceBEq,List.getElem?_cons_zero,List.getElem?_cons_succ];exact rfl)));(focus (intro X V;simp only [ft,nm,Nat.reduceAdd,Nat.reduceBEq];(try (refine AP.Y ?_;dsimp only));(first|((with_reducible apply AP.k_any);refine AP.FC ?_)|fail);(try refine NX ?_);refine AP.nil ?_;(first|refine ⟨trivial,rfl,?_⟩|refine ⟨rfl,rfl,?_⟩);(repeat' (first|exact Mg.nil|apply Mg.keep rfl|apply Mg.take rfl));done));(focus (refine Exists.intro (fun _=>0) ?_;apply Exists.intro;(repeat' (first|exact Mg.nil|apply Mg.keep rfl|apply Mg.take rfl));done));(iterate 2 (focus (exact rfl))))))<;>(try simp only [q0,q1,nq,Nat.reduceBEq,Nat.reduceAdd,Nat.reduceSub]))|refine CP.TL ?_|((with_reducible apply CP.k_drw);refine cp_drwX fun Q' hQ'=>?_)|((with_reducible apply CP.k_reg);refine cp_regG fun Q' hQ'=>?_)|((with_reducible apply CP.k_cond);refine cp_cond rfl (fun hc=>?_) (fun hc=>?_))|(simp only [List.append_eq,List.cons_append,List.nil_append]))
     (exact RetQ.A [(0,0)] (by exact ⟨rfl,rfl⟩))
    ·rw [Gw.come_no _ _ (by simp [hp]) (by simp)];have q1:(p.frm == 9)=false:=by simpa using hp
     rw [q1] at h7;clear h5 h6 h8;refine AC.N Tryz.func31 Tryz.ntmps31 ?_;intro X hρ hmks;refine NX ?_;iterate 3 refine CP.SL ?_
     repeat' (first|((first|((with_reducible apply AP.k_any);first|refine AP.ST ?_|(refine AP.Y ?_;dsimp only)|refine AP.G (fun hg=>?_) (fun hg=>?_)|(refine AP.V (fun c hnil=>?_);simp only [nz])|refine AP.PF ?_)|((with_reducible apply DW.k_any);first|refine DW.ST ?_))<;>(try simp only [q0,nq,Nat.reduceBEq,Nat.reduceAdd,Nat.reduceSub]))|refine CP.TL ?_|((with_reducible apply CP.k_drw);refine cp_drwX fun Q' hQ'=>?_)|((with_reducible apply CP.k_reg);refine cp_regG fun Q' hQ'=>?_)|((with_reducible apply CP.k_cond);refine cp_cond rfl (fun hc=>?_) (fun hc=>?_))|(simp only [List.append_eq,List.cons_append,List.nil_append]))
     refine DW.IA ?_;simp only [nq,Nat.reduceBEq,Nat.reduceAdd,Nat.reduceSub]
     repeat' (first|((first|((with_reducible apply AP.k_any);first|fail|((with_reducible apply AP.k_any);refine AP.FC ?_)|refine AP.ST ?_|(refine AP.Y ?_;dsimp only)|refine AP.G (fun hg=>?_) (fun hg=>?_)|(refine AP.V (fun c hnil=>?_);simp only [nz])|refine AP.PF ?_)|((with_reducible apply DW.k_any);first|refine DW.ST ?_)|((with_reducible apply DW.k_any);first|refine DW.R ?_|refine DW.R' ?_|refine DW.W ?_|refine DW.W' ?_|(refine DW.known rfl ?_;(with_reducible first|apply DW.sx 2);(iterate 2 (focus (simp only [ft,nm,Nat.reduceAdd,Nat.reduceBEq,List.getElem?_cons_zero,List.getElem?_cons_succ];exact rfl)));(focus (intro X V;simp only [ft,nm,Nat.reduceAdd,Nat.reduceBEq];(try (refine AP.Y ?_;dsimp only));(first|((with_reducible apply AP.k_any);refine AP.FC ?_)|fail);(try refine NX ?_);refine AP.nil ?_;(first|refine ⟨trivial,rfl,?_⟩|refine ⟨rfl,rfl,?_⟩);(repeat' (first|exact Mg.nil|apply Mg.keep rfl|apply Mg.take rfl));done));(focus (refine Exists.intro (fun _=>0) ?_;apply Exists.intro;(repeat' (first|exact Mg.nil|apply Mg.keep rfl|apply Mg.take rfl));done));(iterate 2 (focus (exact rfl))))))<;>(try simp only [q0,q1,nq,Nat.reduceBEq,Nat.reduceAdd,Nat.reduceSub]))|refine CP.TL ?_|((with_reducible apply CP.k_drw);refine cp_drwX fun Q' hQ'=>?_)|((with_reducible apply CP.k_reg);refine cp_regG fun Q' hQ'=>?_)|((with_reducible apply CP.k_cond);refine cp_cond rfl (fun hc=>?_) (fun hc=>?_))|(simp only [List.append_eq,List.cons_append,List.nil_append]))
     (exact RetQ.A [(0,0)] (by exact ⟨rfl,rfl⟩))
   ·by_cases hp:p.frm < 5
    ·have e1:Gw.come ({ x with ends:=E' }:Gw) p ⟨6,cl,id,bd,up,fr,en,ha,dn,cf,si⟩=(((({ x with ends:=E' }:Gw).onr ⟨6,cl,id,bd,up,fr,en,ha,dn,cf,si⟩).1.1,[],(({ x with ends:=E' }:Gw).onr ⟨6,cl,id,bd,up,fr,en,ha,dn,cf,si⟩).1.2),(({ x with ends:=E' }:Gw).onr ⟨6,cl,id,bd,up,fr,en,ha,dn,cf,si⟩).2):=by unfold Gw.come;rw [if_neg (by simp),if_pos ⟨rfl,hp⟩]
     rw [e1];generalize Gw.onr _ _=R at *;obtain ⟨⟨out,f⟩,y⟩:=R;dsimp only at *;rw [decide_eq_true hp] at h8;clear h5 h7 e1;refine AC.N Tryz.func31 Tryz.ntmps31 ?_;intro X hρ hmks;refine NX ?_;iterate 3 refine CP.SL ?_
     repeat' (first|((first|((with_reducible apply AP.k_any);first|refine AP.ST ?_|(refine AP.Y ?_;dsimp only)|refine AP.G (fun hg=>?_) (fun hg=>?_)|(refine AP.V (fun c hnil=>?_);simp only [nz])|refine AP.PF ?_)|((with_reducible apply DW.k_any);first|refine DW.ST ?_))<;>(try simp only [q0,nq,Nat.reduceBEq,Nat.reduceAdd,Nat.reduceSub]))|refine CP.TL ?_|((with_reducible apply CP.k_drw);refine cp_drwX fun Q' hQ'=>?_)|((with_reducible apply CP.k_reg);refine cp_regG fun Q' hQ'=>?_)|((with_reducible apply CP.k_cond);refine cp_cond rfl (fun hc=>?_) (fun hc=>?_))|(simp only [List.append_eq,List.cons_append,List.nil_append]))
     refine DW.IA ?_;simp only [nq,Nat.reduceBEq,Nat.reduceAdd,Nat.reduceSub]
     repeat' (first|((first|((with_reducible apply AP.k_any);first|fail|((with_reducible apply AP.k_any);refine AP.FC ?_)|refine AP.ST ?_|(refine AP.Y ?_;dsimp only)|refine AP.G (fun hg=>?_) (fun hg=>?_)|(refine AP.V (fun c hnil=>?_);simp only [nz])|refine AP.PF ?_)|((with_reducible apply DW.k_any);first|refine DW.ST ?_)|((with_reducible apply DW.k_any);first|refine DW.R ?_|refine DW.R' ?_|refine DW.W ?_|refine DW.W' ?_|(refine DW.known rfl ?_;(with_reducible first|apply DW.sx 2);(iterate 2 (focus (simp only [ft,nm,Nat.reduceAdd,Nat.reduceBEq,List.getElem?_cons_zero,List.getElem?_cons_succ];exact rfl)));(focus (intro X V;simp only [ft,nm,Nat.reduceAdd,Nat.reduceBEq];(try (refine AP.Y ?_;dsimp only));(first|((with_reducible apply AP.k_any);refine AP.FC ?_)|fail);(try refine NX ?_);refine AP.nil ?_;(first|refine ⟨trivial,rfl,?_⟩|refine ⟨rfl,rfl,?_⟩);(repeat' (first|exact Mg.nil|apply Mg.keep rfl|apply Mg.take rfl));done));(focus (refine Exists.intro (fun _=>0) ?_;apply Exists.intro;(repeat' (first|exact Mg.nil|apply Mg.keep rfl|apply Mg.take rfl));done));(iterate 2 (focus (exact rfl))))))<;>(try simp only [q0,nq,Nat.reduceBEq,Nat.reduceAdd,Nat.reduceSub]))|refine CP.TL ?_|((with_reducible apply CP.k_drw);refine cp_drwX fun Q' hQ'=>?_)|((with_reducible apply CP.k_reg);refine cp_regG fun Q' hQ'=>?_)|((with_reducible apply CP.k_cond);refine cp_cond rfl (fun hc=>?_) (fun hc=>?_))|(simp only [List.append_eq,List.cons_append,List.nil_append]))
     (exact RetQ.A [(0,0)] (by exact ⟨rfl,rfl⟩))
    ·rw [Gw.come_no _ _ (by simp) (by simp [hp])];rw [decide_eq_false hp] at h8;clear h5 h6 h7;refine AC.N Tryz.func31 Tryz.ntmps31 ?_;intro X hρ hmks;refine NX ?_;iterate 3 refine CP.SL ?_
     repeat' (first|((first|((with_reducible apply AP.k_any);first|refine AP.ST ?_|(refine AP.Y ?_;dsimp only)|refine AP.G (fun hg=>?_) (fun hg=>?_)|(refine AP.V (fun c hnil=>?_);simp only [nz])|refine AP.PF ?_)|((with_reducible apply DW.k_any);first|refine DW.ST ?_))<;>(try simp only [q0,nq,Nat.reduceBEq,Nat.reduceAdd,Nat.reduceSub]))|refine CP.TL ?_|((with_reducible apply CP.k_drw);refine cp_drwX fun Q' hQ'=>?_)|((with_reducible apply CP.k_reg);refine cp_regG fun Q' hQ'=>?_)|((with_reducible apply CP.k_cond);refine cp_cond rfl (fun hc=>?_) (fun hc=>?_))|(simp only [List.append_eq,List.cons_append,List.nil_append]))
     refine DW.IA ?_;simp only [nq,Nat.reduceBEq,Nat.reduceAdd,Nat.reduceSub]
     repeat' (first|((first|((with_reducible apply AP.k_any);first|fail|((with_reducible apply AP.k_any);refine AP.FC ?_)|refine AP.ST ?_|(refine AP.Y ?_;dsimp only)|refine AP.G (fun hg=>?_) (fun hg=>?_)|(refine AP.V (fun c hnil=>?_);simp only [nz])|refine AP.PF ?_)|((with_reducible apply DW.k_any);first|refine DW.ST ?_)|((with_reducible apply DW.k_any);first|refine DW.R ?_|refine DW.R' ?_|refine DW.W ?_|refine DW.W' ?_|(refine DW.known rfl ?_;(with_reducible first|apply DW.sx 2);(iterate 2 (focus (simp only [ft,nm,Nat.reduceAdd,Nat.reduceBEq,List.getElem?_cons_zero,List.getElem?_cons_succ];exact rfl)));(focus (intro X V;simp only [ft,nm,Nat.reduceAdd,Nat.reduceBEq];(try (refine AP.Y ?_;dsimp only));(first|((with_reducible apply AP.k_any);refine AP.FC ?_)|fail);(try refine NX ?_);refine AP.nil ?_;(first|refine ⟨trivial,rfl,?_⟩|refine ⟨rfl,rfl,?_⟩);(repeat' (first|exact Mg.nil|apply Mg.keep rfl|apply Mg.take rfl));done));(focus (refine Exists.intro (fun _=>0) ?_;apply Exists.intro;(repeat' (first|exact Mg.nil|apply Mg.keep rfl|apply Mg.take rfl));done));(iterate 2 (focus (exact rfl))))))<;>(try simp only [q0,nq,Nat.reduceBEq,Nat.reduceAdd,Nat.reduceSub]))|refine CP.TL ?_|((with_reducible apply CP.k_drw);refine cp_drwX fun Q' hQ'=>?_)|((with_reducible apply CP.k_reg);refine cp_regG fun Q' hQ'=>?_)|((with_reducible apply CP.k_cond);refine cp_cond rfl (fun hc=>?_) (fun hc=>?_))|(simp only [List.append_eq,List.cons_append,List.nil_append]))
     (exact RetQ.A [(0,0)] (by exact ⟨rfl,rfl⟩))
   all_goals
    rw [Gw.come_no _ _ (by simp) (by simp)];clear h5 h6 h7 h8;refine AC.N Tryz.func31 Tryz.ntmps31 ?_;intro X hρ hmks;refine NX ?_;iterate 3 refine CP.SL ?_
    repeat' (first|((first|((with_reducible apply AP.k_any);first|refine AP.ST ?_|(refine AP.Y ?_;dsimp only)|refine AP.G (fun hg=>?_) (fun hg=>?_)|(refine AP.V (fun c hnil=>?_);simp only [nz])|refine AP.PF ?_)|((with_reducible apply DW.k_any);first|refine DW.ST ?_))<;>(try simp only [q0,nq,Nat.reduceBEq,Nat.reduceAdd,Nat.reduceSub]))|refine CP.TL ?_|((with_reducible apply CP.k_drw);refine cp_drwX fun Q' hQ'=>?_)|((with_reducible apply CP.k_reg);refine cp_regG fun Q' hQ'=>?_)|((with_reducible apply CP.k_cond);refine cp_cond rfl (fun hc=>?_) (fun hc=>?_))|(simp only [List.append_eq,List.cons_append,List.nil_append]))
    refine DW.IA ?_;simp only [nq,Nat.reduceBEq,Nat.reduceAdd,Nat.reduceSub]
    repeat' (first|((first|((with_reducible apply AP.k_any);first|fail|((with_reducible apply AP.k_any);refine AP.FC ?_)|refine AP.ST ?_|(refine AP.Y ?_;dsimp only)|refine AP.G (fun hg=>?_) (fun hg=>?_)|(refine AP.V (fun c hnil=>?_);simp only [nz])|refine AP.PF ?_)|((with_reducible apply DW.k_any);first|refine DW.ST ?_)|((with_reducible apply DW.k_any);first|refine DW.R ?_|refine DW.R' ?_|refine DW.W ?_|refine DW.W' ?_|(refine DW.known rfl ?_;(with_reducible first|apply DW.sx 2);(iterate 2 (focus (simp only [ft,nm,Nat.reduceAdd,Nat.reduceBEq,List.getElem?_cons_zero,List.getElem?_cons_succ];exact rfl)));(focus (intro X V;simp only [ft,nm,Nat.reduceAdd,Nat.reduceBEq];(try (refine AP.Y ?_;dsimp only));(first|((with_reducible apply AP.k_any);refine AP.FC ?_)|fail);(try refine NX ?_);refine AP.nil ?_;(first|refine ⟨trivial,rfl,?_⟩|refine ⟨rfl,rfl,?_⟩);(repeat' (first|exact Mg.nil|apply Mg.keep rfl|apply Mg.take rfl));done));(focus (refine Exists.intro (fun _=>0) ?_;apply Exists.intro;(repeat' (first|exact Mg.nil|apply Mg.keep rfl|apply Mg.take rfl));done));(iterate 2 (focus (exact rfl))))))<;>(try simp only [q0,nq,Nat.reduceBEq,Nat.reduceAdd,Nat.reduceSub]))|refine CP.TL ?_|((with_reducible apply CP.k_drw);refine cp_drwX fun Q' hQ'=>?_)|((with_reducible apply CP.k_reg);refine cp_regG fun Q' hQ'=>?_)|((with_reducible apply CP.k_cond);refine cp_cond rfl (fun hc=>?_) (fun hc=>?_))|(simp only [List.append_eq,List.cons_append,List.nil_append]))
    (exact RetQ.A [(0,0)] (by exact ⟨rfl,rfl⟩))
  ·rw [if_pos hf];generalize parseM p.body=m at *;obtain ⟨m,f⟩:=m;dsimp only at *;have q1:(f != 0)=true:=by simpa using hf
   refine AC.N Tryz.func31 Tryz.ntmps31 ?_;intro X hρ hmks;refine NX ?_;iterate 3 refine CP.SL ?_
   repeat' (first|((first|((with_reducible apply AP.k_any);first|refine AP.ST ?_|(refine AP.Y ?_;dsimp only)|refine AP.G (fun hg=>?_) (fun hg=>?_)|(refine AP.V (fun c hnil=>?_);simp only [nz])|refine AP.PF ?_)|((with_reducible apply DW.k_any);first|refine DW.ST ?_))<;>(try simp only [q0,q1,nq,Nat.reduceBEq,Nat.reduceAdd,Nat.reduceSub]))|refine CP.TL ?_|((with_reducible apply CP.k_drw);refine cp_drwX fun Q' hQ'=>?_)|((with_reducible apply CP.k_reg);refine cp_regG fun Q' hQ'=>?_)|((with_reducible apply CP.k_cond);refine cp_cond rfl (fun hc=>?_) (fun hc=>?_))|(simp only [List.append_eq,List.cons_append,List.nil_append]))
   (exact RetQ.A [(0,0)] (by exact ⟨rfl,rfl⟩))
 ·rw [if_pos he];have q0:(e != 0)=true:=by simpa using he
  refine AC.N Tryz.func31 Tryz.ntmps31 ?_;intro X hρ hmks;refine NX ?_;iterate 3 refine CP.SL ?_
  repeat' (first|((first|((with_reducible apply AP.k_any);first|refine AP.ST ?_|(refine AP.Y ?_;dsimp only)|refine AP.G (fun hg=>?_) (fun hg=>?_)|(refine AP.V (fun c hnil=>?_);simp only [nz])|refine AP.PF ?_)|((with_reducible apply DW.k_any);first|refine DW.ST ?_))<;>(try simp only [q0,nq,Nat.reduceBEq,Nat.reduceAdd,Nat.reduceSub]))|refine CP.TL ?_|((with_reducible apply CP.k_drw);refine cp_drwX fun Q' hQ'=>?_)|((with_reducible apply CP.k_reg);refine cp_regG fun Q' hQ'=>?_)|((with_reducible apply CP.k_cond);refine cp_cond rfl (fun hc=>?_) (fun hc=>?_))|(simp only [List.append_eq,List.cons_append,List.nil_append]))
  (exact RetQ.A [(0,0)] (by exact ⟨rfl,rfl⟩))
end Go.Proofs.YtifebijohmlnbaaGreat
