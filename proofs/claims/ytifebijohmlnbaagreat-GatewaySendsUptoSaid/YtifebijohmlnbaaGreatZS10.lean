/-
  Texts joined: R1, R2, G10, G8, G9.
-/
import Derived.Test.YtifebijohmlnbaaGreatZS1
import Derived.Test.YtifebijohmlnbaaGreatZS2
import Derived.Test.YtifebijohmlnbaaGreatZS3
import Derived.Test.YtifebijohmlnbaaGreatZS4
import Derived.Test.YtifebijohmlnbaaGreatZS5
import Derived.Test.YtifebijohmlnbaaGreatZS6
import Derived.Test.YtifebijohmlnbaaGreatZS7
import Derived.Test.YtifebijohmlnbaaGreatZS8
import Derived.Test.YtifebijohmlnbaaGreatZS9
namespace Go.Proofs.YtifebijohmlnbaaGreat
set_option linter.unusedVariables false
set_option linter.unusedSimpArgs false
open Go.RowKit
set_option maxRecDepth 100000
set_option maxHeartbeats 8000000
theorem cod_tag:Cod tagR (fun t=>t) (fun t=>t.length=32) where
 fwd a rest h:=takeS_fwd (z:=z32) (f:=tagG) (n:=32) (b:=a) (rest:=rest) h rfl
 bwd st h:=by
  obtain ⟨h1,h2,h3,h4⟩:=takeS_zero (n:=32) (f:=tagG) (z:=z32) (st:=st) h;have e:tagR st=(st.2.take 32,(0,st.2.drop 32)):=h4;rw [e];exact ⟨(List.take_append_drop _ _).symm,by simp;omega⟩
 stk st h:=takeS_stk h
def okPk (p:Pkt):Prop:=(I64 p.frm∧I64 p.to∧I64 p.epoch∧I64 p.boot∧I64 p.seqn)∧p.body.length≤65536∧p.tag.length=32
def pktR (st:Rd):Pkt×Rd:=(packR st,r7 st)
theorem cod_pkt:Cod pktR (fun p=>headS p ++ p.tag) okPk:=
 (cod_int.seq (fun _ _=>cod_int.seq (fun _ _=>cod_int.seq (fun _ _=>cod_int.seq (fun _ _=>cod_int.seq (fun _ _=>cod_bytes.seq (fun _ _=>cod_tag) fun _=>cod_tag.stk)
   fun _ st h=>cod_tag.stk _ (cod_bytes.stk _ h)) fun _ st h=>cod_tag.stk _ (cod_bytes.stk _ (cod_int.stk _ h))) fun _ st h=>cod_tag.stk _ (cod_bytes.stk _ (cod_int.stk _ (cod_int.stk _ h))))
   fun _ st h=>cod_tag.stk _ (cod_bytes.stk _ (cod_int.stk _ (cod_int.stk _ (cod_int.stk _ h))))) fun _ st h=>cod_tag.stk _ (cod_bytes.stk _ (cod_int.stk _ (cod_int.stk _ (cod_int.stk _ (cod_int.stk _ h)))))).iso
   (fun x=>⟨x.1,x.2.1,x.2.2.1,x.2.2.2.1,x.2.2.2.2.1,x.2.2.2.2.2.1,x.2.2.2.2.2.2⟩) (fun p=>(p.frm,(p.to,(p.epoch,(p.boot,(p.seqn,(p.body,p.tag))))))) (fun st=>rfl)
   (fun p _=>by rw [headS_num];simp [numS,bytesF'])
   (fun p h=>⟨⟨h.1.1,h.1.2.1,h.1.2.2.1,h.1.2.2.2.1,h.1.2.2.2.2,h.2.1,h.2.2⟩,rfl⟩)
   fun x h=>⟨⟨⟨h.1,h.2.1,h.2.2.1,h.2.2.2.1,h.2.2.2.2.1⟩,h.2.2.2.2.2.1,h.2.2.2.2.2.2⟩,rfl⟩
theorem parse_rest {p:Pkt} {c:List UInt8} (hp:okPk p) (hl:(headS p ++ p.tag ++ c).length≤65536):packR (newR (headS p ++ p.tag ++ c))=p∧r7 (newR (headS p ++ p.tag ++ c))=(0,c):=by
 have e:(packR (0,headS p ++ p.tag ++ c),r7 (0,headS p ++ p.tag ++ c))=(p,((0:Int),c)):=cod_pkt.fwd p c hp;have hn:newR (headS p ++ p.tag ++ c)=(0,headS p ++ p.tag ++ c):=by unfold newR;rw [if_neg (by omega)]
 rw [hn];exact Prod.mk.inj e
theorem parse_ok {p:Pkt} (h:mayP p=true) (hp:okPk p) (hb:p.body.length≤60000):parseP (headS p ++ p.tag)=(p,0):=by
 obtain ⟨e1,e2⟩:=parse_rest (c:=[]) hp (by have:=headS_len p;have:=hp.2.2;simp;omega);rw [List.append_nil] at e1 e2;unfold parseP;rw [e1,e2];exact if_pos ⟨rfl,h⟩
theorem tagS_tag (root:List UInt8) (p:Pkt) (t:List UInt8):tagS root { p with tag:=t }=tagS root p:=rfl
theorem pkt_eta (p:Pkt) (t:List UInt8):({ p with tag:=t }:Pkt)=⟨p.frm,p.to,p.epoch,p.boot,p.seqn,p.body,t⟩:=rfl
/-- within range -/
def Pkt.rg (p:Pkt):Prop:=(I64 p.frm∧I64 p.to∧I64 p.epoch∧I64 p.boot∧I64 p.seqn)∧p.body.length≤60000
theorem parse_tagged {p:Pkt} {t:List UInt8} (hm:mayP p=true) (hp:p.rg) (ht:t.length=32):parseP (headS p ++ t)=({ p with tag:=t },0):=by
 have hm':mayP { p with tag:=t }=true:=(mayP_tag p t).trans hm;have:=parse_ok (p:={ p with tag:=t }) hm' ⟨hp.1,by have:=hp.2;show p.body.length≤65536;omega,ht⟩ hp.2
 rwa [headS_tag] at this
/-- bytes under a tag, got -/
theorem get_tagged (x:Ends) {p:Pkt} {t:List UInt8} (hm:mayP p=true) (hp:p.rg) (ht:t.length=32) :
 x.get (headS p ++ t)=if p.to≠x.who then ((pk0,190),x) else if t≠tagS x.root p then ((pk0,91),x) else
  (let r:=(got (p.frm,p.epoch) x.wins Wn.new).take p.boot p.seqn
   if r.1≠0 then ((pk0,r.1),{ x with wins:=puts (p.frm,p.epoch) x.wins r.2 }) else (({ p with tag:=t },0),{ x with wins:=puts (p.frm,p.epoch) x.wins r.2 })):=by
 unfold Ends.get;rw [parse_tagged hm hp ht];dsimp only
 by_cases h1:p.to=x.who
 ·rw [if_neg (by simp [h1]),if_neg (by simp [h1]:¬ p.to≠x.who)];have:tagS x.root { p with tag:=t }=tagS x.root p:=tagS_tag _ _ _;rw [pkt_eta] at this;rw [this]
 ·rw [if_pos (.inr h1),if_pos h1]
theorem got_new {α:Type} (s:Sd) (d:α):got s [] d=d:=rfl
theorem got_one {α:Type} (s:Sd) (v d:α):got s [(s,v)] d=v:=by simp [got,at_]
abbrev rtg:List UInt8:=[114,111,111,116]
def wC0:Config:=⟨1,fm 2⟩
def wE0:Ends:=⟨rtg,8,1,[],[]⟩
def wM1:Msg:={ msg0 with kind:=1,client:=1,id:=1,body:=[97] }
def wM6:Msg:={ msg0 with kind:=6,client:=1,id:=1,body:=formN 1 }
def wE1:Ends:=wE0.bump 0 1
def wE2:Ends:=wE1.bump 0 1
def wP1:Pkt:=⟨8,0,1,1,1,formM wM1,List.replicate 32 0⟩
def wPA:Pkt:=⟨1,8,1,1,1,formM wM6,List.replicate 32 0⟩
def wPB:Pkt:=⟨1,8,1,1,2,formM wM6,List.replicate 32 0⟩
def wAsk:Nat→Int:=updA (fun _=>0) 1 1
def wX0:Gw:=⟨wC0,wE0,[],fun _=>0⟩
def wX1:Gw:=⟨wC0,wE1,[(1,[97])],wAsk⟩
def wX2:Gw:=⟨wC0,wE2,[(1,[97])],wAsk⟩
def wW1:Wn:=Wn.new.after 1 1
def wW2:Wn:=wW1.after 1 2
def wE3:Ends:={ wE2 with wins:=[((1,1),wW1)] }
def wE4:Ends:={ wE2 with wins:=[((1,1),wW2)] }
def wX3:Gw:=⟨wC0,wE3,[],wAsk⟩
def wX4:Gw:=⟨wC0,wE4,[],wAsk⟩
def wA:Ga:=⟨2,0,[],1,1,wM6⟩
def wD1:De:=⟨rtg,1,1,[((8,1),(1,Dw.new))]⟩
def wD2:De:=⟨rtg,1,1,[((8,1),(2,Dw.new))]⟩
theorem w1:wX0.submit 1 [97]=((1,[headS wP1 ++ tagS rtg wP1],0),wX1):=rfl
theorem w2:wX1.submit 1 [98]=((0,[],270),wX1):=rfl
theorem w3:wX1.submit 4 [97]=((0,[],2),wX1):=rfl
theorem w4:wX1.waits 1=(1,true):=rfl
theorem w5:wX1.tick.1.length=1∧wX1.tick.2=wX2:=⟨rfl,rfl⟩
theorem wP1_rg:wP1.rg:=by
 unfold Pkt.rg I64 wP1;exact ⟨by decide,by decide⟩
theorem w6:parseP (headS wP1 ++ tagS rtg wP1)=({ wP1 with tag:=tagS rtg wP1 },0):=parse_tagged (by decide) wP1_rg (tagS_len _ _)
theorem w7:pkS (prs rtg 10) wA=(headS wPA ++ tagS rtg wPA,(prs rtg 10).set 1 wD1):=by
 have hn:wA.n=1:=by decide
 have hp:De.pkt ⟨rtg,1,1,[]⟩ 8 1 (formM wM6)=wPA:=rfl;have h:mayP wPA=true:=by decide
 unfold pkS;rw [if_neg (by decide),hn]
 show ((De.send ⟨rtg,1,1,[]⟩ 8 1 (formM wM6)).1.1,(prs rtg 10).set 1 (De.send ⟨rtg,1,1,[]⟩ 8 1 (formM wM6)).2)=_
 unfold De.send;rw [hp,if_pos h];rfl
theorem w8:pkS ((prs rtg 10).set 1 wD1) wA=(headS wPB ++ tagS rtg wPB,(prs rtg 10).set 1 wD2):=by
 have hn:wA.n=1:=by decide
 have hp:wD1.pkt 8 1 (formM wM6)=wPB:=rfl;have h:mayP wPB=true:=by decide
 unfold pkS;rw [if_neg (by decide),hn]
 show ((wD1.send 8 1 (formM wM6)).1.1,((prs rtg 10).set 1 wD1).set 1 (wD1.send 8 1 (formM wM6)).2)=_
 unfold De.send;rw [hp,if_pos h];rfl
theorem wPA_rg:wPA.rg:=by
 unfold Pkt.rg I64 wPA;exact ⟨by decide,by decide⟩
theorem wPB_rg:wPB.rg:=by
 unfold Pkt.rg I64 wPB;exact ⟨by decide,by decide⟩
theorem wW1_t:Wn.new.take 1 1=(0,wW1):=by unfold Wn.take;rw [if_neg (by decide),if_pos (by decide)];rfl
theorem wW2_t:wW1.take 1 2=(0,wW2):=by unfold Wn.take;rw [if_neg (by decide),if_pos (by decide)];rfl
theorem wM6_rng:rng wM6:=by
 have z:I64 0:=by unfold I64;omega
 have o:I64 1:=by unfold I64;omega
 exact ⟨⟨o,o,z,z,z,z,z⟩,⟨z,fun x hx=>by cases hx⟩,fun e he=>by cases he⟩
theorem wRp:parseRp (formN 1)=(rpN 1,0):=rfl
theorem w9:wX2.get (headS wPA ++ tagS rtg wPA)=(([⟨1,1,rpN 1⟩],[],0),wX3):=by
 have g:wE2.get (headS wPA ++ tagS rtg wPA)=(({ wPA with tag:=tagS rtg wPA },0),wE3):=by
  rw [get_tagged _ (by decide) wPA_rg (tagS_len _ _),if_neg (by decide),if_neg (by rw [show wE2.root=rtg from rfl];simp)]
  show (let r:=(got ((1:Int),(1:Int)) [] Wn.new).take 1 1;_)=_
  rw [got_new,wW1_t];rfl
 have hb:({ wPA with tag:=tagS rtg wPA }:Pkt).body=formM wM6:=rfl;unfold Gw.get;dsimp only;rw [show wX2.ends=wE2 from rfl,g];dsimp only;rw [if_neg (by simp),hb,parse_form (by decide) wM6_rng,if_neg (by simp)];dsimp only;unfold Gw.come;rw [if_neg (by decide),if_pos ⟨rfl,by decide⟩];unfold Gw.onr;rw [show wM6.body=formN 1 from rfl,wRp];rfl
theorem w10:wX3.get (headS wPB ++ tagS rtg wPB)=(([],[],0),wX4):=by
 have g:wE3.get (headS wPB ++ tagS rtg wPB)=(({ wPB with tag:=tagS rtg wPB },0),wE4):=by
  rw [get_tagged _ (by decide) wPB_rg (tagS_len _ _),if_neg (by decide),if_neg (by rw [show wE3.root=rtg from rfl];simp)]
  show (let r:=(got ((1:Int),(1:Int)) [((1,1),wW1)] Wn.new).take 1 2;_)=_
  rw [got_one,wW2_t];rfl
 have hb:({ wPB with tag:=tagS rtg wPB }:Pkt).body=formM wM6:=rfl;unfold Gw.get;dsimp only;rw [show wX3.ends=wE3 from rfl,g];dsimp only;rw [if_neg (by simp),hb,parse_form (by decide) wM6_rng,if_neg (by simp)];dsimp only;unfold Gw.come;rw [if_neg (by decide),if_pos ⟨rfl,by decide⟩];unfold Gw.onr;rw [show wM6.body=formN 1 from rfl,wRp];rfl
theorem do_ac {root:List UInt8} (s:Gs) (n:Nat) (a:Ga) (h:s.ok root n) (hn:n≤900) (hr:root.length≤10000) (hf:a.fine):AC Tryz.prog 15 [.bp 0 0 0,.hd 1 0,.ag (eGa a)] [gB s.g,dsR s.p] (fun v bs'=>v=.tu [anO (s.act a).1.1,bss none (s.act a).1.2]∧bs'=[gB (s.act a).2.g,dsR (s.act a).2.p]):=by
 by_cases hk:a.kind=0
 ·have q0:(a.kind == 0)=true:=by rw [hk];rfl
  have q1:(a.kind == 1)=false:=by rw [hk];rfl
  have q2:(a.kind == 2)=false:=by rw [hk];rfl
  have q3:(a.kind == 3)=false:=by rw [hk];rfl
  have q4:(a.kind == 4)=false:=by rw [hk];rfl
  have q5:(a.kind == 5)=false:=by rw [hk];rfl
  have q6:(a.kind == 6)=false:=by rw [hk];rfl
  rw [show s.act a=(([],(s.g.submit a.client a.body).1.2.1),⟨(s.g.submit a.client a.body).2,s.p⟩) from if_pos (by omega)];have h1:=gsub_ac s.g n h.g (by omega) a.client a.body (by have:=hf.b;omega);generalize s.g.submit a.client a.body=R at *;obtain ⟨⟨i,out,e⟩,y⟩:=R;dsimp only at *;refine AC.N Tryz.func15 Tryz.ntmps15 ?_;intro X hρ hmks;refine NX ?_;iterate 3 refine CP.SL ?_
  repeat' (first|((first|((with_reducible apply AP.k_any);first|fail|((with_reducible apply AP.k_any);refine AP.B 0 (h1) ?_)|refine AP.ST ?_|(refine AP.Y ?_;dsimp only)|refine AP.G (fun hg=>?_) (fun hg=>?_)|(refine AP.V (fun c hnil=>?_);simp only [nz])))<;>(try simp only [q0,q1,q2,q3,q4,q5,q6,nq,Nat.reduceBEq,Nat.reduceAdd,Nat.reduceSub]))|refine CP.TL ?_|((with_reducible apply CP.k_reg);refine cp_regG fun Q' hQ'=>?_)|((with_reducible apply CP.k_cond);refine cp_cond rfl (fun hc=>?_) (fun hc=>?_))|(simp only [List.append_eq,List.cons_append,List.nil_append]))
  (exact RetQ.A [(0,0),(1,0)] (by exact ⟨rfl,rfl⟩))
 rename ¬ a.kind=0=>k0
 by_cases hk:a.kind=1
 ·have q0:(a.kind == 0)=false:=by rw [hk];rfl
  have q1:(a.kind == 1)=true:=by rw [hk];rfl
  have q2:(a.kind == 2)=false:=by rw [hk];rfl
  have q3:(a.kind == 3)=false:=by rw [hk];rfl
  have q4:(a.kind == 4)=false:=by rw [hk];rfl
  have q5:(a.kind == 5)=false:=by rw [hk];rfl
  have q6:(a.kind == 6)=false:=by rw [hk];rfl
  rw [show s.act a=(([],(s.g.submit a.client a.body).1.2.1),⟨(s.g.submit a.client a.body).2,s.p⟩) from if_pos (by omega)];have h1:=gsub_ac s.g n h.g (by omega) a.client a.body (by have:=hf.b;omega);generalize s.g.submit a.client a.body=R at *;obtain ⟨⟨i,out,e⟩,y⟩:=R;dsimp only at *;refine AC.N Tryz.func15 Tryz.ntmps15 ?_;intro X hρ hmks;refine NX ?_;iterate 3 refine CP.SL ?_
  repeat' (first|((first|((with_reducible apply AP.k_any);first|fail|((with_reducible apply AP.k_any);refine AP.B 0 (h1) ?_)|refine AP.ST ?_|(refine AP.Y ?_;dsimp only)|refine AP.G (fun hg=>?_) (fun hg=>?_)|(refine AP.V (fun c hnil=>?_);simp only [nz])))<;>(try simp only [q0,q1,q2,q3,q4,q5,q6,nq,Nat.reduceBEq,Nat.reduceAdd,Nat.reduceSub]))|refine CP.TL ?_|((with_reducible apply CP.k_reg);refine cp_regG fun Q' hQ'=>?_)|((with_reducible apply CP.k_cond);refine cp_cond rfl (fun hc=>?_) (fun hc=>?_))|(simp only [List.append_eq,List.cons_append,List.nil_append]))
  (exact RetQ.A [(0,0),(1,0)] (by exact ⟨rfl,rfl⟩))
 rename ¬ a.kind=1=>k1
 by_cases hk:a.kind=2
 ·have q0:(a.kind == 0)=false:=by rw [hk];rfl
  have q1:(a.kind == 1)=false:=by rw [hk];rfl
  have q2:(a.kind == 2)=true:=by rw [hk];rfl
  have q3:(a.kind == 3)=false:=by rw [hk];rfl
  have q4:(a.kind == 4)=false:=by rw [hk];rfl
  have q5:(a.kind == 5)=false:=by rw [hk];rfl
  have q6:(a.kind == 6)=false:=by rw [hk];rfl
  rw [show s.act a=(((s.g.get (pkS s.p a).1).1.1,(s.g.get (pkS s.p a).1).1.2.1),⟨(s.g.get (pkS s.p a).1).2,(pkS s.p a).2⟩) from (if_neg (by omega)).trans (if_pos (by omega))];have h1:=pk_ac a h.p (by omega) hr hf;have h2:=gget_ac s.g n (pkS s.p a).1 h.g (by omega) (pk_len s.p hf);generalize pkS s.p a=P at *;obtain ⟨b,L⟩:=P;dsimp only at *;generalize s.g.get b=R at *;obtain ⟨⟨l,out,e⟩,y⟩:=R;dsimp only at *;refine AC.N Tryz.func15 Tryz.ntmps15 ?_;intro X hρ hmks;refine NX ?_;iterate 3 refine CP.SL ?_
  repeat' (first|((first|((with_reducible apply AP.k_any);first|fail|((with_reducible apply AP.k_any);refine AP.B 0 (h1) ?_)|((with_reducible apply AP.k_any);refine AP.B 0 (h2) ?_)|refine AP.ST ?_|(refine AP.Y ?_;dsimp only)|refine AP.G (fun hg=>?_) (fun hg=>?_)|(refine AP.V (fun c hnil=>?_);simp only [nz])))<;>(try simp only [q0,q1,q2,q3,q4,q5,q6,nq,Nat.reduceBEq,Nat.reduceAdd,Nat.reduceSub]))|refine CP.TL ?_|((with_reducible apply CP.k_reg);refine cp_regG fun Q' hQ'=>?_)|((with_reducible apply CP.k_cond);refine cp_cond rfl (fun hc=>?_) (fun hc=>?_))|(simp only [List.append_eq,List.cons_append,List.nil_append]))
  (exact RetQ.A [(0,0),(1,0)] (by exact ⟨rfl,rfl⟩))
 rename ¬ a.kind=2=>k2
 by_cases hk:a.kind=3
 ·have q0:(a.kind == 0)=false:=by rw [hk];rfl
  have q1:(a.kind == 1)=false:=by rw [hk];rfl
  have q2:(a.kind == 2)=false:=by rw [hk];rfl
  have q3:(a.kind == 3)=true:=by rw [hk];rfl
  have q4:(a.kind == 4)=false:=by rw [hk];rfl
  have q5:(a.kind == 5)=false:=by rw [hk];rfl
  have q6:(a.kind == 6)=false:=by rw [hk];rfl
  rw [show s.act a=(((s.g.get (pkS s.p a).1).1.1,(s.g.get (pkS s.p a).1).1.2.1),⟨(s.g.get (pkS s.p a).1).2,(pkS s.p a).2⟩) from (if_neg (by omega)).trans (if_pos (by omega))];have h1:=pk_ac a h.p (by omega) hr hf;have h2:=gget_ac s.g n (pkS s.p a).1 h.g (by omega) (pk_len s.p hf);generalize pkS s.p a=P at *;obtain ⟨b,L⟩:=P;dsimp only at *;generalize s.g.get b=R at *;obtain ⟨⟨l,out,e⟩,y⟩:=R;dsimp only at *;refine AC.N Tryz.func15 Tryz.ntmps15 ?_;intro X hρ hmks;refine NX ?_;iterate 3 refine CP.SL ?_
  repeat' (first|((first|((with_reducible apply AP.k_any);first|fail|((with_reducible apply AP.k_any);refine AP.B 0 (h1) ?_)|((with_reducible apply AP.k_any);refine AP.B 0 (h2) ?_)|refine AP.ST ?_|(refine AP.Y ?_;dsimp only)|refine AP.G (fun hg=>?_) (fun hg=>?_)|(refine AP.V (fun c hnil=>?_);simp only [nz])))<;>(try simp only [q0,q1,q2,q3,q4,q5,q6,nq,Nat.reduceBEq,Nat.reduceAdd,Nat.reduceSub]))|refine CP.TL ?_|((with_reducible apply CP.k_reg);refine cp_regG fun Q' hQ'=>?_)|((with_reducible apply CP.k_cond);refine cp_cond rfl (fun hc=>?_) (fun hc=>?_))|(simp only [List.append_eq,List.cons_append,List.nil_append]))
  (exact RetQ.A [(0,0),(1,0)] (by exact ⟨rfl,rfl⟩))
 rename ¬ a.kind=3=>k3
 by_cases hk:a.kind=4
 ·have q0:(a.kind == 0)=false:=by rw [hk];rfl
  have q1:(a.kind == 1)=false:=by rw [hk];rfl
  have q2:(a.kind == 2)=false:=by rw [hk];rfl
  have q3:(a.kind == 3)=false:=by rw [hk];rfl
  have q4:(a.kind == 4)=true:=by rw [hk];rfl
  have q5:(a.kind == 5)=false:=by rw [hk];rfl
  have q6:(a.kind == 6)=false:=by rw [hk];rfl
  rw [show s.act a=(((s.g.get (pkS s.p a).1).1.1,(s.g.get (pkS s.p a).1).1.2.1),⟨(s.g.get (pkS s.p a).1).2,(pkS s.p a).2⟩) from (if_neg (by omega)).trans (if_pos (by omega))];have h1:=pk_ac a h.p (by omega) hr hf;have h2:=gget_ac s.g n (pkS s.p a).1 h.g (by omega) (pk_len s.p hf);generalize pkS s.p a=P at *;obtain ⟨b,L⟩:=P;dsimp only at *;generalize s.g.get b=R at *;obtain ⟨⟨l,out,e⟩,y⟩:=R;dsimp only at *;refine AC.N Tryz.func15 Tryz.ntmps15 ?_;intro X hρ hmks;refine NX ?_;iterate 3 refine CP.SL ?_
  repeat' (first|((first|((with_reducible apply AP.k_any);first|fail|((with_reducible apply AP.k_any);refine AP.B 0 (h1) ?_)|((with_reducible apply AP.k_any);refine AP.B 0 (h2) ?_)|refine AP.ST ?_|(refine AP.Y ?_;dsimp only)|refine AP.G (fun hg=>?_) (fun hg=>?_)|(refine AP.V (fun c hnil=>?_);simp only [nz])))<;>(try simp only [q0,q1,q2,q3,q4,q5,q6,nq,Nat.reduceBEq,Nat.reduceAdd,Nat.reduceSub]))|refine CP.TL ?_|((with_reducible apply CP.k_reg);refine cp_regG fun Q' hQ'=>?_)|((with_reducible apply CP.k_cond);refine cp_cond rfl (fun hc=>?_) (fun hc=>?_))|(simp only [List.append_eq,List.cons_append,List.nil_append]))
  (exact RetQ.A [(0,0),(1,0)] (by exact ⟨rfl,rfl⟩))
 rename ¬ a.kind=4=>k4
 by_cases hk:a.kind=5
 ·have q0:(a.kind == 0)=false:=by rw [hk];rfl
  have q1:(a.kind == 1)=false:=by rw [hk];rfl
  have q2:(a.kind == 2)=false:=by rw [hk];rfl
  have q3:(a.kind == 3)=false:=by rw [hk];rfl
  have q4:(a.kind == 4)=false:=by rw [hk];rfl
  have q5:(a.kind == 5)=true:=by rw [hk];rfl
  have q6:(a.kind == 6)=false:=by rw [hk];rfl
  rw [show s.act a=(((s.g.get (pkS s.p a).1).1.1,(s.g.get (pkS s.p a).1).1.2.1),⟨(s.g.get (pkS s.p a).1).2,(pkS s.p a).2⟩) from (if_neg (by omega)).trans (if_pos (by omega))];have h1:=pk_ac a h.p (by omega) hr hf;have h2:=gget_ac s.g n (pkS s.p a).1 h.g (by omega) (pk_len s.p hf);generalize pkS s.p a=P at *;obtain ⟨b,L⟩:=P;dsimp only at *;generalize s.g.get b=R at *;obtain ⟨⟨l,out,e⟩,y⟩:=R;dsimp only at *;refine AC.N Tryz.func15 Tryz.ntmps15 ?_;intro X hρ hmks;refine NX ?_;iterate 3 refine CP.SL ?_
  repeat' (first|((first|((with_reducible apply AP.k_any);first|fail|((with_reducible apply AP.k_any);refine AP.B 0 (h1) ?_)|((with_reducible apply AP.k_any);refine AP.B 0 (h2) ?_)|refine AP.ST ?_|(refine AP.Y ?_;dsimp only)|refine AP.G (fun hg=>?_) (fun hg=>?_)|(refine AP.V (fun c hnil=>?_);simp only [nz])))<;>(try simp only [q0,q1,q2,q3,q4,q5,q6,nq,Nat.reduceBEq,Nat.reduceAdd,Nat.reduceSub]))|refine CP.TL ?_|((with_reducible apply CP.k_reg);refine cp_regG fun Q' hQ'=>?_)|((with_reducible apply CP.k_cond);refine cp_cond rfl (fun hc=>?_) (fun hc=>?_))|(simp only [List.append_eq,List.cons_append,List.nil_append]))
  (exact RetQ.A [(0,0),(1,0)] (by exact ⟨rfl,rfl⟩))
 rename ¬ a.kind=5=>k5
 by_cases hk:a.kind=6
 ·have q0:(a.kind == 0)=false:=by rw [hk];rfl
  have q1:(a.kind == 1)=false:=by rw [hk];rfl
  have q2:(a.kind == 2)=false:=by rw [hk];rfl
  have q3:(a.kind == 3)=false:=by rw [hk];rfl
  have q4:(a.kind == 4)=false:=by rw [hk];rfl
  have q5:(a.kind == 5)=false:=by rw [hk];rfl
  have q6:(a.kind == 6)=true:=by rw [hk];rfl
  rw [show s.act a=(([],s.g.tick.1),⟨s.g.tick.2,s.p⟩) from (if_neg (by omega)).trans ((if_neg (by omega)).trans (if_pos hk))];have h1:=gtick_ac s.g n h.g (by omega);generalize s.g.tick=R at *;obtain ⟨out,y⟩:=R;dsimp only at *;refine AC.N Tryz.func15 Tryz.ntmps15 ?_;intro X hρ hmks;refine NX ?_;iterate 3 refine CP.SL ?_
  repeat' (first|((first|((with_reducible apply AP.k_any);first|fail|((with_reducible apply AP.k_any);refine AP.B 0 (h1) ?_)|refine AP.ST ?_|(refine AP.Y ?_;dsimp only)|refine AP.G (fun hg=>?_) (fun hg=>?_)|(refine AP.V (fun c hnil=>?_);simp only [nz])))<;>(try simp only [q0,q1,q2,q3,q4,q5,q6,nq,Nat.reduceBEq,Nat.reduceAdd,Nat.reduceSub]))|refine CP.TL ?_|((with_reducible apply CP.k_reg);refine cp_regG fun Q' hQ'=>?_)|((with_reducible apply CP.k_cond);refine cp_cond rfl (fun hc=>?_) (fun hc=>?_))|(simp only [List.append_eq,List.cons_append,List.nil_append]))
  (exact RetQ.A [(0,0),(1,0)] (by exact ⟨rfl,rfl⟩))
 rename ¬ a.kind=6=>k6
 rw [show s.act a=(([],[]),s) from (if_neg (by omega)).trans ((if_neg (by omega)).trans (if_neg k6))];have q0:(a.kind == 0)=false:=by simpa using k0
 have q1:(a.kind == 1)=false:=by simpa using k1
 have q2:(a.kind == 2)=false:=by simpa using k2
 have q3:(a.kind == 3)=false:=by simpa using k3
 have q4:(a.kind == 4)=false:=by simpa using k4
 have q5:(a.kind == 5)=false:=by simpa using k5
 have q6:(a.kind == 6)=false:=by simpa using k6
 refine AC.N Tryz.func15 Tryz.ntmps15 ?_;intro X hρ hmks;refine NX ?_;iterate 3 refine CP.SL ?_
 repeat' (first|((first|((with_reducible apply AP.k_any);first|fail|refine AP.ST ?_|(refine AP.Y ?_;dsimp only)|refine AP.G (fun hg=>?_) (fun hg=>?_)|(refine AP.V (fun c hnil=>?_);simp only [nz])))<;>(try simp only [q0,q1,q2,q3,q4,q5,q6,nq,Nat.reduceBEq,Nat.reduceAdd,Nat.reduceSub]))|refine CP.TL ?_|((with_reducible apply CP.k_reg);refine cp_regG fun Q' hQ'=>?_)|((with_reducible apply CP.k_cond);refine cp_cond rfl (fun hc=>?_) (fun hc=>?_))|(simp only [List.append_eq,List.cons_append,List.nil_append]))
 (exact RetQ.A [(0,0),(1,0)] (by exact ⟨rfl,rfl⟩))
theorem fine_of {l:List Ga} (hg:great27 l=false):l.length≤80∧∀ a∈l,a.fine:=by
 have h:waS l≤8000:=by unfold great27 at hg;rw [decide_eq_false_iff_not] at hg;omega
 refine ⟨by have:=waS_len l;omega,fun a ha=>?_⟩;have h1:=waS_mem ha;have h2:=waE_len a.m.entries;unfold waG at h1;exact ⟨by omega,by omega,by omega,by omega,by omega⟩
def gw0 (root:List UInt8) (k:Nat):Gw:=⟨⟨1,fm k⟩,⟨root,8,1,[],[]⟩,[],fun _=>0⟩
theorem gw0_ok (root:List UInt8) (hr:root.length≤10000) {k:Nat} (h1:1≤k) (h2:k≤5):(gw0 root k).ok 0:=by
 have hM0:mayC ⟨1,fm k⟩=true:=by
  have hk:k=1∨k=2∨k=3∨k=4∨k=5:=by omega
  rcases hk with rfl|rfl|rfl|rfl|rfl<;>rfl
 refine ⟨⟨hM0,hr,rfl,rfl⟩,fun s=>⟨Int.le_refl _,Int.le_refl _⟩,List.nodup_nil,Nat.zero_le _,?_,fun k=>⟨Int.le_refl _,Int.le_refl _⟩,?_⟩
 ·intro p hp;cases hp
 ·intro q hq;cases hq
end Go.Proofs.YtifebijohmlnbaaGreat
