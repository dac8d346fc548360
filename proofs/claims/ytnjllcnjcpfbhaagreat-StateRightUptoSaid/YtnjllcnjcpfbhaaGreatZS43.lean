/- Parts. -/
import Derived.Test.YtnjllcnjcpfbhaaGreatZS37
import Derived.Test.YtnjllcnjcpfbhaaGreatZS40
import Derived.Test.YtnjllcnjcpfbhaaGreatZS41
import Derived.Test.YtnjllcnjcpfbhaaGreatZS42
import Derived.Deep.CondSized
namespace Go.Proofs.YtnjllcnjcpfbhaaGreat
set_option linter.unusedVariables false
set_option linter.unusedSimpArgs false
open Go.RowKit Go.Proofs.Tryz
set_option maxRecDepth 100000
set_option maxHeartbeats 8000000
theorem op_ac (root:List UInt8) (hrt:root.length<=100000) (s:St) (hm:maySt s=true) (hs:s.small) (hl:s.links.length<=999999) (hx:∀ x∈s.links,x.self.length=32) (q:Req) (hq:q.small) (hk:q.key.length<=1000000) (hv:q.val.length<=1000000) (st:Int) (n:Nat) (x:Ten) (hn:s.tens[n]? = some x) (ho:needS q.op≠0) :
 q.op.toNat<=10/\∃ f,(opsC.drop ((q.op.toNat:Int).toNat * 2)).take 2=[U (needS q.op),.fn f []]/\AC prog f [.ag (eAs q root st n),.bp 0 0 0] [stB s] (fun v bs'=>v=.ag (eRp (opS root s q st n x).1)/\bs'=[stB (opS root s q st n x).2]):=by
 have ht:=maySt_small hm x (List.mem_of_getElem? hn);have hp:=(maySp_len (maySt_tens hm x (List.mem_of_getElem? hn)).2.2).1;have hlen:=maySt_len hm;have h:=q.op.toNat_lt
 have hc:q.op.toNat=1\/q.op.toNat=2\/q.op.toNat=3\/q.op.toNat=4\/q.op.toNat=5\/q.op.toNat=6\/q.op.toNat=7\/q.op.toNat=8\/q.op.toNat=9\/q.op.toNat=10:=by
  unfold needS at ho;split at ho<;>first|omega|exact absurd rfl ho
 refine ⟨by omega,?_⟩;rcases hc with hc|hc|hc|hc|hc|hc|hc|hc|hc|hc
 ·refine ⟨169,?_,?_⟩
  ·rw [show needS q.op=1 by simp only [needS,hc],hc];rfl
  have e:opS root s q st n x=(oGet s q x,s):=by simp only [opS,hc]
  rw [e];exact oget_ac s q root st n x hn ht
 ·refine ⟨170,?_,?_⟩
  ·rw [show needS q.op=2 by simp only [needS,hc],hc];rfl
  have e:opS root s q st n x=oChg s q n x:=by simp only [opS,hc]
  rw [e];exact ochg_ac s q hq hk hv root st n x hn ht
 ·refine ⟨170,?_,?_⟩
  ·rw [show needS q.op=2 by simp only [needS,hc],hc];rfl
  have e:opS root s q st n x=oChg s q n x:=by simp only [opS,hc]
  rw [e];exact ochg_ac s q hq hk hv root st n x hn ht
 ·refine ⟨170,?_,?_⟩
  ·rw [show needS q.op=2 by simp only [needS,hc],hc];rfl
  have e:opS root s q st n x=oChg s q n x:=by simp only [opS,hc]
  rw [e];exact ochg_ac s q hq hk hv root st n x hn ht
 ·refine ⟨171,?_,?_⟩
  ·rw [show needS q.op=4 by simp only [needS,hc],hc];rfl
  have e:opS root s q st n x=(oList q x,s):=by simp only [opS,hc]
  rw [e];exact olist_ac s q root st n x hn ht (by omega)
 ·refine ⟨172,?_,?_⟩
  ·rw [show needS q.op=8 by simp only [needS,hc],hc];rfl
  have e:opS root s q st n x=oCre s q st:=by simp only [opS,hc]
  rw [e];exact ocre_ac s q root st n hs (by omega) (by omega) (by omega) hx
 ·refine ⟨173,?_,?_⟩
  ·rw [show needS q.op=8 by simp only [needS,hc],hc];rfl
  have e:opS root s q st n x=oRsz s q st:=by simp only [opS,hc]
  rw [e];exact orsz_ac s hm q root st n hs (by omega) hx
 ·refine ⟨174,?_,?_⟩
  ·rw [show needS q.op=8 by simp only [needS,hc],hc];rfl
  have e:opS root s q st n x=oGnt root s q st:=by simp only [opS,hc]
  rw [e];exact ognt_ac s hm q root hrt st n hs (by omega) hx
 ·refine ⟨175,?_,?_⟩
  ·rw [show needS q.op=8 by simp only [needS,hc],hc];rfl
  have e:opS root s q st n x=oRev s q st:=by simp only [opS,hc]
  rw [e];exact orev_ac s q root st n hs (by omega) hx
 ·refine ⟨176,?_,?_⟩
  ·rw [show needS q.op=8 by simp only [needS,hc],hc];rfl
  have e:opS root s q st n x=(oAudit s q,s):=by simp only [opS,hc]
  rw [e];exact oaudit_ac s q root st n (by omega)
theorem parseRq_fit (b:List UInt8):(parseRq b).1.small/\(parseRq b).1.tok.length<=1000000/\(parseRq b).1.key.length<=1000000/\(parseRq b).1.val.length<=1000000:=by
 have z:req0.small/\req0.tok.length<=1000000/\req0.key.length<=1000000/\req0.val.length<=1000000:=⟨⟨Nat.zero_le _,Nat.zero_le _,Nat.zero_le _,Nat.zero_le _⟩,Nat.zero_le _,Nat.zero_le _,Nat.zero_le _⟩;unfold parseRq;split
 ·exact z
 ·next hb=>
  split
  ·have l0:(newR b).2.length<=1000000:=newR_le' (by omega);have l1:(byteR (newR b)).2.2.length<=1000000:=byteR_len l0;have l2:(bytesR (byteR (newR b)).2).2.2.length<=1000000:=bytes_le l1;have l3:(bytesR (bytesR (byteR (newR b)).2).2).2.2.length<=1000000:=bytes_le l2;exact ⟨readRq_small (by omega),bytesR_bnd l1,bytesR_bnd l2,bytesR_bnd l3⟩
  ·exact z
theorem addL_ok {l:List Lnk} (hx:∀ x∈l,x.self.length=32) (st:Int) (op:UInt8) (t a b c:Int):(∀ x∈addL l st op t a b c,x.self.length=32)/\(addL l st op t a b c).length=l.length + 1:=by
 unfold addL;refine ⟨fun x h=>?_,by simp⟩;rcases List.mem_append.1 h with h|h
 ·exact hx x h
 ·rw [List.mem_singleton.1 h];exact shaS_len _
structure Kept (s s':St):Prop where
 pos:s'.pos=s.pos
 lasts:s'.lasts=s.lasts
 len:s'.links.length<=s.links.length + 1
 self:(∀ x∈s.links,x.self.length=32)->∀ x∈s'.links,x.self.length=32
theorem Kept.same (s:St):Kept s s:=⟨rfl,rfl,by omega,fun h=>h⟩
theorem Kept.lnk (s:St) (sh:List Shr) (tens:List Ten) (q:Req) (st a b c:Int):Kept s (lnkS { s with sh:=sh,tens:=tens } q st a b c):=⟨rfl,rfl,by
 show (addL s.links st q.op q.ten a b c).length<=_
 unfold addL;simp,fun h=>(addL_ok h st q.op q.ten a b c).1⟩
theorem opS_kept (root:List UInt8) (s:St) (q:Req) (st:Int) (n:Nat) (x:Ten):Kept s (opS root s q st n x).2:=by
 unfold opS;have hc:Kept s (oChg s q n x).2:=⟨rfl,rfl,by show s.links.length<=_;omega,fun h=>h⟩;split
 ·exact .same s
 ·exact hc
 ·exact hc
 ·exact hc
 ·exact .same s
 ·unfold oCre;split
  ·exact Kept.lnk s _ _ q st _ _ _
  ·exact .same s
 ·unfold oRsz;split
  ·split
   ·exact .same s
   ·split
    ·exact .same s
    ·split
     ·exact .same s
     ·exact Kept.lnk s _ _ q st _ _ _
  ·exact .same s
 ·unfold oGnt;split
  ·exact .same s
  ·split
   ·exact .same s
   ·split
    ·exact .same s
    ·split
     ·exact .same s
     ·split
      ·exact Kept.lnk s _ _ q st _ _ _
      ·exact .same s
 ·unfold oRev;split
  ·exact .same s
  ·split
   ·exact .same s
   ·split
    ·exact Kept.lnk s _ _ q st _ _ _
    ·exact .same s
 ·exact .same s
 ·exact .same s
theorem opS_keys {root:List UInt8} {s:St} {q:Req} {st:Int} {n:Nat} {x:Ten} (hp:maySp x.spc=true):(opS root s q st n x).1.keys.length<=64:=by
 unfold opS;split
 ·exact Nat.zero_le _
 ·exact Nat.zero_le _
 ·exact Nat.zero_le _
 ·exact Nat.zero_le _
 ·show (listP x.spc q.key q.n).length<=64
  unfold listP;rw [if_pos hp,List.length_map,List.length_take,List.length_drop];have:=(maySp_len hp).1;omega
 ·unfold oCre;split<;>exact Nat.zero_le _
 ·unfold oRsz;(repeat' split)<;>exact Nat.zero_le _
 ·unfold oGnt;(repeat' split)<;>exact Nat.zero_le _
 ·unfold oRev;(repeat' split)<;>exact Nat.zero_le _
 ·exact Nat.zero_le _
 ·exact Nat.zero_le _
theorem doS_kept (root:List UInt8) (s:St) (st:Int) (body:List UInt8):Kept s (doS root s st body).1/\(doS root s st body).2.keys.length<=64:=by
 have z:∀ e,Kept s (s,failR e).1/\(s,failR e).2.keys.length<=64:=fun e=>⟨.same s,Nat.zero_le _⟩
 unfold doS;split
 ·exact z _
 ·next hm=>
  split
  ·unfold doQ;split
   ·unfold doT;split
    ·split
     ·exact z _
     ·split
      ·exact z _
      ·next n _ x hx=>
       unfold doX;split
       ·exact z _
       ·split
        ·split
         ·exact z _
         ·split
          ·exact ⟨opS_kept ..,opS_keys (maySt_tens (by simpa using hm) x (List.mem_of_getElem? hx)).2.2⟩
          ·exact z _
        ·exact z _
    ·exact z _
   ·exact z _
  ·exact z _
def badE (s:St) (e:Entry):Bool:=!maySt s || e.pos != IntKind.i64.wrap (s.pos + 1) || decide (1099511627776 < e.pos) || !clkS e.stamp || ((askL s.lasts e.client e.id).2.2 == 2)
def applyS (root:List UInt8) (s:St) (e:Entry):St×Rep:=
 if badE s e=true then (s,failR 2)
 else if (askL s.lasts e.client e.id).2.2≠0 then ({ s with pos:=s.pos + 1 },failR (askL s.lasts e.client e.id).2.2)
 else if (askL s.lasts e.client e.id).2.1=true then ({ s with pos:=s.pos + 1 },(askL s.lasts e.client e.id).1)
 else ({ (doS root s e.stamp e.body).1 with pos:=s.pos + 1,lasts:=(noteL (doS root s e.stamp e.body).1.lasts e.client e.id (doS root s e.stamp e.body).2).1 },(doS root s e.stamp e.body).2)
theorem badE_no {s:St} {e:Entry} (h:badE s e=false):maySt s=true/\e.pos=s.pos + 1/\e.pos<=1099511627776/\clkS e.stamp=true/\(askL s.lasts e.client e.id).2.2≠2:=by
 simp only [badE,Bool.or_eq_false_iff,Bool.not_eq_false',bne_eq_false_iff_eq,decide_eq_false_iff_not,beq_eq_false_iff_ne] at h;obtain ⟨⟨⟨⟨h1,h2⟩,h3⟩,h4⟩,h5⟩:=h;have hc:=(maySt_of h1).1;simp only [clkS,Bool.and_eq_true,decide_eq_true_eq] at hc;rw [wrap_i64 (by omega) (by omega)] at h2;exact ⟨h1,h2,by omega,h4,h5⟩
theorem mayL_filter {l:List Las} (p:Las->Bool) (h:mayL' l=true):mayL' (l.filter p)=true:=by
 unfold mayL' at h ⊢;rw [asc_rise] at h ⊢;exact ⟨fun x hx=>h.1 x (List.mem_filter.1 hx).1,rise_filter p h.2⟩
theorem noteL_may {l:List Las} {c i:Int} {r:Rep} (h:mayL' l=true):mayL' (noteL l c i r).1=true:=by
 unfold noteL;split
 ·rfl
 ·next hf=>
  split
  ·rfl
  ·have hf:fitL c i=true:=by
    have:mayL' l=true/\fitL c i=true:=by simpa using hf
    exact this.2
   have h2:=mayL_filter (fun y=>!(y.client == c)) h;unfold mayL' at h2 ⊢;rw [asc_rise] at h2 ⊢;refine ⟨fun x hx=>?_,insL_rise (key:=Las.client) (x:=⟨c,i,r⟩) h2.2 fun y hy=>?_⟩
   ·rcases insL_has.1 hx with rfl|hx
    ·exact hf
    ·exact h2.1 x hx
   ·have:=(List.mem_filter.1 hy).2
    simpa using this
theorem mayL_len {l:List Las} (h:mayL' l=true):l.length<=4:=by
 unfold mayL' at h;rw [asc_rise] at h
 have:=rise_len (a:=0) (b:=3) h.2 fun z hz=>by
  obtain ⟨y,hy,rfl⟩:=List.mem_map.1 hz;have:=h.1 y hy;simp only [lasS,fitL,Bool.and_eq_true,decide_eq_true_eq] at this;omega
 rw [List.length_map] at this;omega
theorem maySt_all {s:St} (h:maySt s=true):s.small:=by
 obtain ⟨h1,h2⟩:=maySt_len h;have:=mayL_len (maySt_of h).2.2.1;exact ⟨by omega,by omega,by omega,maySt_small h⟩
structure Inv (k:Nat) (s:St):Prop where
 may:maySt s=true
 len:s.links.length<=k
 self:∀ x∈s.links,x.self.length=32
 keys:∀ x∈s.lasts,x.rep.keys.length<=64
theorem maySt_pos {s:St} {p:Int} {l:List Las} (h:maySt s=true) (hp:clkS p=true) (hl:mayL' l=true):maySt { s with pos:=p,lasts:=l }=true:=by
 obtain ⟨_,h2,_,h4,h5⟩:=maySt_of h;unfold maySt;dsimp only;rw [hp,h2,hl,decide_eq_true h4,h5];rfl
theorem noteL_mem {l:List Las} {c i:Int} {r:Rep} {x:Las} (h:x∈(noteL l c i r).1):x=⟨c,i,r⟩\/x∈l:=by
 unfold noteL at h;split at h
 ·cases h
 ·split at h
  ·cases h
  ·rcases insL_has.1 h with h|h
   ·exact .inl h
   ·exact .inr (List.mem_filter.1 h).1
theorem Inv.apply {k:Nat} {s:St} (h:Inv k s) (root:List UInt8) (e:Entry):Inv (k + 1) (applyS root s e).1:=by
 have hs:Inv (k + 1) s:=⟨h.may,by have:=h.len;omega,h.self,h.keys⟩;unfold applyS;split
 ·exact hs
 ·next hb=>
  have hb:badE s e=false:=by simpa using hb
  obtain ⟨h1,h2,h3,h4,h5⟩:=badE_no hb;have hc:=(maySt_of h1).1;simp only [clkS,Bool.and_eq_true,decide_eq_true_eq] at hc;have hc2:clkS (s.pos + 1)=true:=by simp only [clkS,Bool.and_eq_true,decide_eq_true_eq];omega
  have hp:Inv (k + 1) { s with pos:=s.pos + 1 }:=⟨maySt_pos (l:=s.lasts) h1 hc2 (maySt_of h1).2.2.1,hs.len,hs.self,hs.keys⟩;split
  ·exact hp
  ·split
   ·exact hp
   ·obtain ⟨kp,kk⟩:=doS_kept root s e.stamp e.body;have hm:=doS_may (root:=root) (st:=e.stamp) (body:=e.body) h1;refine ⟨maySt_pos hm hc2 (noteL_may (maySt_of hm).2.2.1),?_,kp.self h.self,fun x hx=>?_⟩
    ·have:=kp.len;have:=h.len;dsimp only;omega
    ·rcases noteL_mem hx with rfl|hx
     ·exact kk
     ·rw [kp.lasts] at hx;exact h.keys x hx
theorem applyS_pos (root:List UInt8) (s:St) (e:Entry):(applyS root s e).1.pos=s.pos\/(applyS root s e).1.pos=s.pos + 1:=by
 unfold applyS;split
 ·exact .inl rfl
 ·split
  ·exact .inr rfl
  ·split<;>exact .inr rfl
theorem applyS_keys {k:Nat} {s:St} (h:Inv k s) (root:List UInt8) (e:Entry):(applyS root s e).2.keys.length<=64:=by
 unfold applyS;split
 ·exact Nat.zero_le _
 ·split
  ·exact Nat.zero_le _
  ·split
   ·unfold askL;split
    ·exact Nat.zero_le _
    ·split
     ·exact Nat.zero_le _
     ·split
      ·exact Nat.zero_le _
      ·split
       ·next x hx=>exact h.keys x (List.mem_of_find?_eq_some hx)
       ·exact Nat.zero_le _
   ·exact (doS_kept ..).2
structure CallR where
 client:Int
 id:Int
 st:Int
 q:Req
 from_:Int
 line:List Gr
 right:Bool
 raw:List UInt8
abbrev eCall (c:CallR):List AV:=[I c.client,I c.id,I c.st,U c.q.op,bs none c.q.tok,S c.q.key,S c.q.val,S c.q.old,I c.q.n,I c.q.ten,I c.q.keys,I c.q.spc,U c.q.g.rts,I c.q.g.exp,I c.q.g.ser,I c.from_,grA c.line,B c.right,bs none c.raw]
def tokC (root:List UInt8) (c:CallR):List UInt8:=if c.right=true then tokP ⟨c.from_,c.line,tokT (keyT root c.from_) c.from_ c.line⟩ else c.q.tok
def bodyS (root:List UInt8) (c:CallR):List UInt8:=if 0 < c.raw.length then c.raw else formRq { c.q with tok:=tokC root c }
def greatC (c:CallR):Bool:=decide (10 < c.line.length) || decide (2000 < c.raw.length) || decide (2000 < c.q.tok.length) || decide (2000 < c.q.key.length + c.q.val.length + c.q.old.length)
theorem tokP_len {t:Tok} (ht:t.tag.length=32):(tokP t).length<=144:=by
 unfold tokP;split
 ·next h=>
  simp only [mayT,lineS,Bool.and_eq_true,decide_eq_true_eq] at h;have hn:(nuL [t.ten,(t.line.length:Int)]).length=16:=by rw [nuL_length];rfl
  rw [List.length_append,List.length_append,hn,grN_flat_len,ht];omega
 ·exact Nat.zero_le _
theorem bodyS_len {root:List UInt8} {c:CallR} (h:greatC c=false):(bodyS root c).length<=5000:=by
 simp only [greatC,Bool.or_eq_false_iff,decide_eq_false_iff_not] at h;unfold bodyS;split
 ·omega
 ·rw [formRq_len]
  have:(tokC root c).length<=2000:=by
   unfold tokC;split
   ·exact Nat.le_trans (tokP_len (tokT_len ..)) (by omega)
   ·omega
  dsimp only;omega
def entC (root:List UInt8) (s:St) (c:CallR):Entry:=⟨IntKind.i64.wrap (s.pos + 1),c.st,c.client,c.id,bodyS root c⟩
def stepS (root:List UInt8) (s:St) (c:CallR):St×Rep:=applyS root s (entC root s c)
def stk (root:List UInt8) (l:List CallR):Nat->St
 | 0=>st0
 | k + 1=>match l[k]? with
  | some c=>(stepS root (stk root l k) c).1
  | none=>stk root l k
def rpk (root:List UInt8) (l:List CallR) (k:Nat):Rep:=match l[k]? with
 | some c=>(stepS root (stk root l k) c).2
 | none=>rp0
def allS (root:List UInt8) (l:List CallR) (k:Nat):List St:=(List.range (k + 1)).map (stk root l)
def outS (root:List UInt8) (l:List CallR) (k:Nat):List Rep:=(List.range k).map (rpk root l)
def runOk (root:List UInt8) (l:List CallR):Bool:=decide (l=[]) || (decide (root.length<=100) && decide (l.length<=30) && l.all fun c=>!greatC c)
theorem inv0:Inv 0 st0:=⟨rfl,Nat.le_refl _,fun x hx=>(by cases hx),fun x hx=>(by cases hx)⟩
theorem Inv.up {k n:Nat} {s:St} (h:Inv k s) (hk:k<=n):Inv n s:=⟨h.may,Nat.le_trans h.len hk,h.self,h.keys⟩
theorem stk_inv (root:List UInt8) (l:List CallR):∀ k,Inv k (stk root l k)
 | 0=>inv0
 | k + 1=>by
  unfold stk;split
  ·exact (stk_inv root l k).apply root _
  ·exact (stk_inv root l k).up (by omega)
theorem stk_at {root:List UInt8} {l:List CallR} {k:Nat} {c:CallR} (h:l[k]? = some c):stk root l (k + 1)=(stepS root (stk root l k) c).1/\rpk root l k=(stepS root (stk root l k) c).2:=by
 constructor
 ·rw [stk,h]
 ·rw [rpk,h]
theorem allS_succ (root:List UInt8) (l:List CallR) (k:Nat):allS root l (k + 1)=allS root l k ++ [stk root l (k + 1)]:=by
 unfold allS;rw [List.range_succ,List.map_append];rfl
theorem outS_succ (root:List UInt8) (l:List CallR) (k:Nat):outS root l (k + 1)=outS root l k ++ [rpk root l k]:=by
 unfold outS;rw [List.range_succ,List.map_append];rfl
theorem allS_len (root:List UInt8) (l:List CallR) (k:Nat):(allS root l k).length=k + 1:=by simp [allS]
theorem outS_len (root:List UInt8) (l:List CallR) (k:Nat):(outS root l k).length=k:=by simp [outS]
theorem allS_at {root:List UInt8} {l:List CallR} {k i:Nat} (h:i<=k):(allS root l k)[i]? = some (stk root l i):=by
 unfold allS;rw [List.getElem?_map,List.getElem?_range (by omega)];rfl
theorem outS_at {root:List UInt8} {l:List CallR} {k i:Nat} (h:i < k):(outS root l k)[i]? = some (rpk root l i):=by
 unfold outS;rw [List.getElem?_map,List.getElem?_range h];rfl
theorem stk_pos (root:List UInt8) (l:List CallR) (k:Nat):(stk root l (k + 1)).pos=(stk root l k).pos\/(stk root l (k + 1)).pos=(stk root l k).pos + 1:=by
 rw [stk];split
 ·exact applyS_pos ..
 ·exact .inl rfl
theorem stk_posle (root:List UInt8) (l:List CallR):∀ k:Nat,0<=(stk root l k).pos/\(stk root l k).pos<=k
 | 0=>⟨Int.le_refl _,Int.le_refl _⟩
 | k + 1=>by
  have:=stk_posle root l k;rcases stk_pos root l k with h|h<;>omega
theorem ask_note {l:List Las} {c i:Int} {r:Rep} (hm:mayL' l=true) (hf:fitL c i=true) (ho:ofL l c < i):askL (noteL l c i r).1 c i=(r,true,0):=by
 have e:noteL l c i r=(insL (fun y:Las=>decide (c < y.client)) ⟨c,i,r⟩ (l.filter fun y=>!(y.client == c)),0):=by
  unfold noteL;rw [if_neg (by rw [hm,hf];simp),if_neg (by omega)]
 have hm2:=noteL_may (c:=c) (i:=i) (r:=r) hm;rw [e] at hm2 ⊢;dsimp only at hm2 ⊢
 have hfind:(insL (fun y:Las=>decide (c < y.client)) ⟨c,i,r⟩ (l.filter fun y=>!(y.client == c))).find? (fun x=>x.client == c)=some ⟨c,i,r⟩:=by
  cases h:(insL (fun y:Las=>decide (c < y.client)) ⟨c,i,r⟩ (l.filter fun y=>!(y.client == c))).find? (fun x=>x.client == c) with
  | none=>exact absurd (List.find?_eq_none.1 h _ (insL_has.2 (.inl rfl))) (by simp)
  | some y=>
   rcases insL_has.1 (List.mem_of_find?_eq_some h) with rfl|hy
   ·rfl
   ·have h1:=(List.mem_filter.1 hy).2;have h2:=List.find?_some h;simp at h1 h2;exact absurd h2 h1
 unfold askL;rw [show ofL (insL (fun y:Las=>decide (c < y.client)) ⟨c,i,r⟩ (l.filter fun y=>!(y.client == c))) c=i by unfold ofL;rw [hfind],if_neg (by rw [hm2,hf];simp),if_neg (by omega),if_neg (by omega),hfind]
theorem askL_ok {l:List Las} {c i:Int} (h:(askL l c i).2.2≠2):mayL' l=true/\fitL c i=true:=by
 unfold askL at h;split at h
 ·exact absurd rfl h
 ·next hf=>simpa using hf
theorem askL_new {l:List Las} {c i:Int} (h:(askL l c i).2.2=0) (hk:(askL l c i).2.1=false):mayL' l=true/\fitL c i=true/\ofL l c < i:=by
 obtain ⟨h1,h2⟩:=askL_ok (by rw [h];decide);refine ⟨h1,h2,?_⟩;unfold askL at h hk;rw [if_neg (by rw [h1,h2];simp)] at h hk;split at h
 ·cases h
 ·next ha=>
  rw [if_neg ha] at hk;split at hk
  ·next hb=>exact hb
  ·next hb=>
   split at hk
   ·cases hk
   ·next hn=>
    have:ofL l c=0:=by unfold ofL;rw [hn]
    simp only [fitL,Bool.and_eq_true,decide_eq_true_eq] at h2;omega
theorem again {k:Nat} {root:List UInt8} {p:St} {c:CallR} (hp:Inv k p) (hpos:(stepS root p c).1.pos≠p.pos) (hlim:(stepS root p c).1.pos < 1099511627776) :
 stepS root (stepS root p c).1 c=({ (stepS root p c).1 with pos:=(stepS root p c).1.pos + 1 },(stepS root p c).2):=by
 have hI:=hp.apply root (entC root p c);unfold stepS at hpos hlim hI ⊢
 cases hb:badE p (entC root p c) with
 | true=>exact absurd (by unfold applyS;rw [if_pos hb]) hpos
 | false=>
  obtain ⟨g1,g2,g3,g4,g5⟩:=badE_no hb;have hg5:=askL_ok g5
  have key:∀ (s:St) (o:Rep),applyS root p (entC root p c)=(s,o)->(askL s.lasts c.client c.id=askL p.lasts c.client c.id/\((askL p.lasts c.client c.id).2.2≠0/\o=failR (askL p.lasts c.client c.id).2.2\/(askL p.lasts c.client c.id).2.2=0/\(askL p.lasts c.client c.id).2.1=true/\o=(askL p.lasts c.client c.id).1)\/askL s.lasts c.client c.id=(o,true,0)) ->
   applyS root s (entC root s c)=({ s with pos:=s.pos + 1 },o):=by
   intro s o hs hk;rw [hs] at hI hlim;have hc:=(maySt_of hI.may).1;simp only [clkS,Bool.and_eq_true,decide_eq_true_eq] at hc;have hw:IntKind.i64.wrap (s.pos + 1)=s.pos + 1:=wrap_i64 (by omega) (by omega)
   have hne:(askL s.lasts c.client c.id).2.2≠2:=by
    rcases hk with ⟨h1,_⟩|h1
    ·rw [h1];exact g5
    ·rw [h1];exact (by decide:(0:Int)≠2)
   have g4':clkS c.st=true:=g4;have hlt:¬ (1099511627776 < s.pos + 1):=by dsimp only at hlim;omega
   have hbn:badE s (entC root s c)=false:=by
    show (!maySt s || (IntKind.i64.wrap (s.pos + 1) != IntKind.i64.wrap (s.pos + 1)) || decide (1099511627776 < IntKind.i64.wrap (s.pos + 1)) || !clkS c.st || ((askL s.lasts c.client c.id).2.2 == 2))=false
    rw [hI.may,hw,decide_eq_false hlt,g4']
    simpa using hne
   unfold applyS;rw [if_neg (by rw [hbn];simp)]
   show (if (askL s.lasts c.client c.id).2.2≠0 then _ else if (askL s.lasts c.client c.id).2.1=true then _ else _)=_
   rcases hk with ⟨h1,⟨h2,h3⟩|⟨h2,h3,h4⟩⟩|h1
   ·rw [if_pos (by rw [h1];exact h2)];exact Prod.ext rfl (by show failR (askL s.lasts c.client c.id).2.2=o;rw [h1,h3])
   ·rw [if_neg (by rw [h1];simpa using h2),if_pos (by rw [h1];exact h3)];exact Prod.ext rfl (by show (askL s.lasts c.client c.id).1=o;rw [h1,h4])
   ·rw [if_neg (by rw [h1];simp),if_pos (by rw [h1])];exact Prod.ext rfl (by show (askL s.lasts c.client c.id).1=o;rw [h1])
  by_cases he:(askL p.lasts c.client c.id).2.2=0
  ·cases hkn:(askL p.lasts c.client c.id).2.1 with
   | true=>
    have e:applyS root p (entC root p c)=({ p with pos:=p.pos + 1 },(askL p.lasts c.client c.id).1):=by
     unfold applyS;rw [if_neg (by rw [hb];simp),if_neg (show ¬ (askL p.lasts (entC root p c).client (entC root p c).id).2.2≠0 from fun h=>h he),if_pos (show (askL p.lasts (entC root p c).client (entC root p c).id).2.1=true from hkn)];rfl
    rw [e];exact key _ _ e (.inl ⟨rfl,.inr ⟨he,hkn,rfl⟩⟩)
   | false=>
    have e:applyS root p (entC root p c)=({ (doS root p c.st (bodyS root c)).1 with pos:=p.pos + 1,lasts:=(noteL (doS root p c.st (bodyS root c)).1.lasts c.client c.id (doS root p c.st (bodyS root c)).2).1 },(doS root p c.st (bodyS root c)).2):=by
     unfold applyS;rw [if_neg (by rw [hb];simp),if_neg (show ¬ (askL p.lasts (entC root p c).client (entC root p c).id).2.2≠0 from fun h=>h he),if_neg (by rw [show (askL p.lasts (entC root p c).client (entC root p c).id).2.1=false from hkn];simp)];rfl
    obtain ⟨n1,n2,n3⟩:=askL_new he hkn;have kp:=(doS_kept root p c.st (bodyS root c)).1;rw [e];refine key _ _ e (.inr ?_);dsimp only;rw [kp.lasts];exact ask_note n1 n2 n3
  ·have e:applyS root p (entC root p c)=({ p with pos:=p.pos + 1 },failR (askL p.lasts c.client c.id).2.2):=by
    unfold applyS;rw [if_neg (by rw [hb];simp),if_pos (show (askL p.lasts (entC root p c).client (entC root p c).id).2.2≠0 from he)];rfl
   rw [e];exact key _ _ e (.inl ⟨rfl,.inl ⟨he,rfl⟩⟩)
theorem step_err {root:List UInt8} {p:St} {c:CallR} (h:(stepS root p c).1.pos=p.pos):(stepS root p c).2.err=2:=by
 unfold stepS at h ⊢;unfold applyS at h ⊢;split
 ·rfl
 ·next hb=>
  rw [if_neg hb] at h;split at h
  ·dsimp only at h;omega
  ·split at h<;>(dsimp only at h;omega)
theorem do_ac (root:List UInt8) (hrt:root.length<=100000) (s:St) (st:Int) (body:List UInt8) (hb:body.length<=100000000) (hs:s.small) (hlk:s.links.length<=999999) (hx:∀ x∈s.links,x.self.length=32) (hk:∀ x∈s.lasts,x.rep.keys.length<=1000000):AF 53 [bs none root,.ag (eSt s),I st,bs none body] (.tu [.ag (eSt (doS root s st body).1),.ag (eRp (doS root s st body).2)]):=by
 have hf:=parseRq_fit body
 cases hm:maySt s with
 | false=>exact do_may_ac root s st body hb hs hlk hk (.inl hm)
 | true=>
 by_cases hq:(parseRq body).2=0
 ·by_cases ht:(parT (parseRq body).1.tok).2=0
  ·by_cases hc:checkT (keyT root (parT (parseRq body).1.tok).1.ten) (parT (parseRq body).1.tok).1=0
   ·rcases idxF_cases (fun x:Ten=>x.num == (parT (parseRq body).1.tok).1.ten) s.tens with ⟨_,hn⟩|⟨n,x,e,hn,hp,hno⟩
    ·exact do_ten_ac root hrt s st body hb hs hlk hk hm hq hf.2.1 ht hc hn
    ·have h1:=(sown_ac s hs (by omega) hk).ro (r2:=.ag (eSt s)) (by simp only [AV.ro,roC,roTe,roS,roLk,roL]);have h2:=stmay_ac s hs;have h4:=parseRq_ac body hb;have hT:=parT_fit (parseRq body).1.tok;have h5:=tparse_ac (parseRq body).1.tok hf.2.1
     have hd:doS root s st body=doX root s st (parseRq body).1 (parT (parseRq body).1.tok).1 n x:=by
      unfold doS doQ doT;rw [if_neg (by rw [hm];simp),if_pos hq,if_pos ht,if_pos hc,fidx_some hn hp hno];dsimp only;rw [hn]
     rw [hd];rw [hm] at h2;rw [hq] at h4;rw [ht] at h5;obtain ⟨hf1,hf2,hf3,hf4⟩:=hf;generalize (parseRq body).1=q at *;generalize (parT q.tok).1=T at *;have h6:=skey_ac root hrt T.ten;have hkl:(keyT root T.ten).length<=1000000:=by unfold keyT;exact Nat.le_trans (Nat.le_of_eq (hmacS_len _ _)) (by omega)
     have h7:=check_ac (keyT root T.ten) hkl T hT.1 (by omega);rw [hc] at h7;have h8:=stat_ac s hs.t T.ten;unfold idxT at h8;rw [e] at h8;have h9:=rany_ac x.rev T.line (by omega) (hs.s x (List.mem_of_getElem? hn)).r;have h10:=needs_ac q.op;have h11:=verify_ac (keyT root T.ten) hkl T hT.1 (by omega) st (needS q.op);unfold doX
     cases ha:(T.line.any fun g=>hasI x.rev g.ser) with
     | true=>
      rw [if_pos rfl];rw [ha] at h9;exact do_rev_ac h1 h2 h4 h5 h6 h7 h8 hn h9
     | false=>
      rw [if_neg (by simp)];rw [ha] at h9
      by_cases hv:verS (keyT root T.ten) T st (needS q.op)=0
      ·rw [if_pos hv]
       by_cases hnd:needS q.op=0\/needS q.op=8/\T.ten≠0
       ·rw [if_pos hnd];rcases hnd with h|h
        ·exact do_zero_ac h1 h2 h4 h5 h6 h7 h8 hn h9 h10 h11 hv h
        ·exact do_rgt_ac h1 h2 h4 h5 h6 h7 h8 hn h9 h10 h11 hv h.1 h.2
       ·rw [if_neg hnd];have hn0:needS q.op≠0:=fun h=>hnd (.inl h)
        obtain ⟨hop,f,hidx,hf⟩:=op_ac root hrt s hm hs hlk hx q hf1 hf3 hf4 st n x hn hn0;rw [hv] at h11
        have:=do_op_ac h1 h2 h4 h5 h6 h7 h8 hn h9 h10 h11 (fun h=>hn0 (UInt8.toNat_inj.1 (by simpa using (by omega:(needS q.op).toNat=0)))) (by
         by_cases h8:needS q.op=8
         ·exact .inr (Decidable.byContradiction fun h=>hnd (.inr ⟨h8,h⟩))
         ·exact .inl fun h=>h8 (UInt8.toNat_inj.1 (by simpa using (by omega:(needS q.op).toNat=8)))) (fun _=>sown_ac s hs (by omega) hk) hop hidx hf
        by_cases he:(opS root s q st n x).1.err=0
        ·rw [if_pos he];rw [if_pos he,if_pos he] at this;exact this
        ·rw [if_neg he];rw [if_neg he,if_neg he] at this;exact this
      ·rw [if_neg hv];exact do_ver_ac h1 h2 h4 h5 h6 h7 h8 hn h9 h10 h11 hv
   ·exact do_chk_ac root hrt s st body hb hs hlk hk hm hq hf.2.1 ht hc
  ·exact do_tok_ac root hrt s st body hb hs hlk hk hm hq hf.1 hf.2.1 ht
 ·exact do_may_ac root s st body hb hs hlk hk (.inr hq)
theorem dkey_ac (root:List UInt8) (hr:root.length<=100000) (n:Int):AF 41 [bs none root,I n] (bs none (keyT root n)):=by
 have h1:AF 90 [bs none root,.sc (.string ⟨#[116,101,110,97,110,116]⟩),.sl none 1 [[I n]]] (bs none (keyT root n)):=dderive_ac root tenB [n] hr (by decide) (by simp);generalize keyT root n=k at *;refine AC.E func41 ntmps41 ?_;intros;refine CP.SL ?_
 repeat' (first|((first|refine wA1 ?_|(refine GA ?_ ?_<;>intro hg)|(refine GV ?_;intros;simp only [nz])|refine wA6 ?_)<;>try refine NQ ?_)|refine wT3 ?_|with_reducible intro Q' hQ'|(refine GC ?_ ?_<;>intro hc)|simp only [laq])
 exact RA0
theorem great_ac (c:CallR) (h1:c.line.length<=100000000) (h2:c.raw.length<=100000000) (h3:c.q.tok.length<=100000000) (h4:c.q.key.length<=100000000) (h5:c.q.val.length<=100000000) (h6:c.q.old.length<=100000000):AF 23 [.ag (eCall c)] (B (greatC c)):=by
 obtain ⟨client,id,st,⟨op,tok,key,val,old,n,ten,keys,spc,g⟩,from_,line,right,raw⟩:=c;dsimp only at *;have w1:IntKind.i64.wrap ((key.length:Int) + (val.length:Int))=((key.length + val.length:Nat):Int):=by rw [wrap_i64 (by omega) (by omega)];omega
 have w2:IntKind.i64.wrap (((key.length + val.length:Nat):Int) + (old.length:Int))=((key.length + val.length + old.length:Nat):Int):=by rw [wrap_i64 (by omega) (by omega)];omega
 have z1:=bsz key;have z2:=bsz val;have z3:=bsz old;unfold greatC;dsimp only
 cases q1:decide (10 < line.length) with
 | true=>
  have q1':decide ((10:Int) < (line.length:Int))=true:=decide_eq_true (by have:=of_decide_eq_true q1;omega);refine AC.E func23 ntmps23 ?_;intros;refine CP.SL ?_
  repeat' (first|((first|refine wA1 ?_|(refine GA ?_ ?_<;>intro hg)|(refine GV ?_;intros;simp only [nz])|refine wA6 ?_)<;>try refine wN22 ?_)|refine wT3 ?_|with_reducible intro Q' hQ'|(refine GC ?_ ?_<;>intro hc)|simp only [laq])
  exact RA0
 | false=>
 have q1':decide ((10:Int) < (line.length:Int))=false:=decide_eq_false (by have:=of_decide_eq_false q1;omega)
 cases q2:decide (2000 < raw.length) with
 | true=>
  have q2':decide ((2000:Int) < (raw.length:Int))=true:=decide_eq_true (by have:=of_decide_eq_true q2;omega);refine AC.E func23 ntmps23 ?_;intros;refine CP.SL ?_
  repeat' (first|((first|refine wA1 ?_|(refine GA ?_ ?_<;>intro hg)|(refine GV ?_;intros;simp only [nz])|refine wA6 ?_)<;>try refine wN13 ?_)|refine wT3 ?_|with_reducible intro Q' hQ'|(refine GC ?_ ?_<;>intro hc)|simp only [laq])
  exact RA0
 | false=>
 have q2':decide ((2000:Int) < (raw.length:Int))=false:=decide_eq_false (by have:=of_decide_eq_false q2;omega)
 cases q3:decide (2000 < tok.length) with
 | true=>
  have q3':decide ((2000:Int) < (tok.length:Int))=true:=decide_eq_true (by have:=of_decide_eq_true q3;omega);refine AC.E func23 ntmps23 ?_;intros;refine CP.SL ?_
  repeat' (first|((first|refine wA1 ?_|(refine GA ?_ ?_<;>intro hg)|(refine GV ?_;intros;simp only [nz])|refine wA6 ?_)<;>(try simp only [q1',q2',q3',nq,Nat.reduceBEq,Nat.reduceAdd,Nat.reduceSub]))|refine wT3 ?_|with_reducible intro Q' hQ'|(refine GC ?_ ?_<;>intro hc)|simp only [laq])
  exact RA0
 | false=>
 have q3':decide ((2000:Int) < (tok.length:Int))=false:=decide_eq_false (by have:=of_decide_eq_false q3;omega);have q4':decide ((2000:Int) < ((key.length + val.length + old.length:Nat):Int))=decide (2000 < key.length + val.length + old.length):=by rw [Bool.eq_iff_iff];simp;omega
 generalize decide (2000 < key.length + val.length + old.length)=G at *;refine AC.E func23 ntmps23 ?_;intros;refine CP.SL ?_
 repeat' (first|((first|refine wA1 ?_|(refine GA ?_ ?_<;>intro hg)|(refine GV ?_;intros;simp only [nz])|refine wA6 ?_)<;>(try simp only [q1',q2',q3',z1,z2,z3,w1,w2,q4',nq,Nat.reduceBEq,Nat.reduceAdd,Nat.reduceSub]))|refine wT3 ?_|with_reducible intro Q' hQ'|(refine GC ?_ ?_<;>intro hc)|simp only [laq])
 exact RA0
theorem body_ac (root:List UInt8) (hr:root.length<=100000) (c:CallR) (hg:greatC c=false):AF 13 [bs none root,.ag (eCall c)] (bs (some tU) (bodyS root c)):=by
 simp only [greatC,Bool.or_eq_false_iff,decide_eq_false_iff_not] at hg;obtain ⟨⟨⟨k1,k2⟩,k3⟩,k4⟩:=hg;unfold bodyS
 by_cases hraw:0 < c.raw.length
 ·rw [if_pos hraw];have q1:decide ((0:Int) < (c.raw.length:Int))=true:=decide_eq_true (by omega);have hl:([]:List (List AV)).length + (c.raw.map eB).length<=1000000000:=by simp;omega
  obtain ⟨client,id,st,⟨op,tok,key,val,old,n,ten,keys,spc,g⟩,from_,line,right,raw⟩:=c;dsimp only at *;refine AC.E func13 ntmps13 ?_;intros;iterate 2 refine CP.SL ?_
  repeat' (first|((first|refine wA1 ?_|(refine GA ?_ ?_<;>intro hg)|(refine GV ?_;intros;simp only [nz])|refine wA6 ?_|refine wD1 ?_)<;>(try simp only [q1,List.nil_append,nq,Nat.reduceBEq,Nat.reduceAdd,Nat.reduceSub]))|refine wT6 ?_|with_reducible intro Q' hQ'|(refine GC ?_ ?_<;>intro hc)|simp only [laq])
  exact RA0
 ·rw [if_neg hraw];have q1:decide ((0:Int) < (c.raw.length:Int))=false:=decide_eq_false (by omega)
  cases hright:c.right with
  | false=>
   have et:tokC root c=c.q.tok:=by unfold tokC;rw [if_neg (by rw [hright];simp)]
   rw [et];have h1:=dformRq_ac c.q (by omega);obtain ⟨client,id,st,⟨op,tok,key,val,old,n,ten,keys,spc,g⟩,from_,line,right,raw⟩:=c;dsimp only at *;subst hright;clear et;generalize formRq _=F at *;refine AC.E func13 ntmps13 ?_;intros;iterate 2 refine CP.SL ?_
   repeat' (first|((first|refine wA1 ?_|(refine GA ?_ ?_<;>intro hg)|(refine GV ?_;intros;simp only [nz])|refine wA6 ?_|refine wD1 ?_)<;>try refine wN0 ?_)|refine wT6 ?_|with_reducible intro Q' hQ'|(refine GC ?_ ?_<;>intro hc)|simp only [laq])
   exact RA0
  | true=>
   have et:tokC root c=tokP ⟨c.from_,c.line,tokT (keyT root c.from_) c.from_ c.line⟩:=by unfold tokC;rw [if_pos hright]
   have hkl:(keyT root c.from_).length<=1000000:=by unfold keyT;exact Nat.le_trans (Nat.le_of_eq (hmacS_len _ _)) (by omega)
   have htl:(tokT (keyT root c.from_) c.from_ c.line).length=32:=tokT_len ..;have hpl:(tokP ⟨c.from_,c.line,tokT (keyT root c.from_) c.from_ c.line⟩).length<=144:=tokP_len htl;have h1:=dformRq_ac { c.q with tok:=tokC root c } (by dsimp only;rw [et];omega);have h2:=dkey_ac root hr c.from_;have h3:=dtag9_ac (keyT root c.from_) hkl ⟨c.from_,c.line,z32⟩ (by dsimp only;omega);have h4:=dprint9_ac ⟨c.from_,c.line,tokT (keyT root c.from_) c.from_ c.line⟩ htl (by dsimp only;omega);rw [et] at h1 ⊢;obtain ⟨client,id,st,⟨op,tok,key,val,old,n,ten,keys,spc,g⟩,from_,line,right,raw⟩:=c;dsimp only at *;subst hright;clear et;generalize formRq _=F at *;generalize tokP _=P at *;generalize tokT (keyT root from_) from_ line=T at *;generalize keyT root from_=key1 at *;refine AC.E func13 ntmps13 ?_;intros;iterate 2 refine CP.SL ?_
   repeat' (first|((first|refine wA1 ?_|(refine GA ?_ ?_<;>intro hg)|(refine GV ?_;intros;simp only [nz])|refine wA6 ?_|refine wD1 ?_)<;>try refine wN0 ?_)|refine wT6 ?_|with_reducible intro Q' hQ'|(refine GC ?_ ?_<;>intro hc)|simp only [laq])
   exact RA0
theorem told_ac {k:Nat} {s:St} (h:Inv k s) (hk:k<=900000) (root:List UInt8) (hrt:root.length<=100000) (t:Tok) (ht:TokOk root t) (st:Int) (q:Req) (hop:q.op.toNat<=10) (hs:∀ T,((shpR { q with tok:=T }).1 && bareR (shpR { q with tok:=T }).2)=true) (hl:q.key.length + q.val.length + q.old.length<=500):AF 25 [bs none root,.ag (eSt s),.ag (eTok t),I st,.ag (eRq q)] (.tu [.ag (eSt (toldS root s t st q).1),.ag (eRp (toldS root s t st q).2)]):=by
 have h1:=tokP_le ht;have hm:=ht.may;simp only [mayT,lineS,Bool.and_eq_true,decide_eq_true_eq] at hm;have h2:=tprint_ac t ht.len (by omega);have hfl:(formRq { q with tok:=tokP t }).length<=1024:=by rw [formRq_len];dsimp only;omega
 have h3:=print_rq { q with tok:=tokP t } (mayReq_of h1 hop (hs _)) hfl;have hln:=h.len;have h4:=do_ac root hrt s st (formRq { q with tok:=tokP t }) (by omega) (maySt_all h.may) (by omega) h.self (fun x hx=>by have:=h.keys x hx;omega);unfold toldS;generalize formRq { q with tok:=tokP t }=b at *;generalize doS root s st b=R at *;generalize tokP t=T at *;refine AC.E func25 ntmps25 ?_;intros;iterate 3 refine CP.SL ?_
 repeat' (first|((first|refine wA1 ?_|(refine GA ?_ ?_<;>intro hg)|(refine GV ?_;intros;simp only [nz])|refine wA6 ?_)<;>try refine NQ ?_)|refine wT3 ?_|with_reducible intro Q' hQ'|(refine GC ?_ ?_<;>intro hc)|simp only [laq])
 exact RA0
section
open Go.RowKit Go.ChangeShapes Go.WideShapes Go.ChangeAt Go.Deep
theorem ostr:OA prog 9 1 (fun N (l:List UInt8)=>l.length < N) (fun l=>[S l]):=
 (oa_string Tryz.underlying9 (by kernel_rfl)).map (fun b=>b.data.toList) (fun _ _ _ h k=>Nat.lt_of_lt_of_le k h) (fun n a h=>by
   show a.data.toList.length < n
   rw [Array.length_toList];exact h) fun a=>by rfl
theorem oboo:OA prog 4 1 (fun _ (_:Bool)=>True) (fun b=>[B b]):=oa_bool Tryz.underlying4 (by kernel_rfl)
theorem ogr:OA prog 47 3 (fun _ (_:Gr)=>True) eGr:=
 (oa_struct Tryz.underlying47 (by kernel_rfl) (of_cons rfl ou (of_cons rfl oi (of_cons rfl oi of_nil)))).map (fun d=>(⟨d.1,d.2.1,d.2.2.1⟩:Gr)) (fun _ _ _ _ h=>h) (fun _ _ _=>trivial) fun _=>rfl
theorem ogrs:OA prog 54 1 (fun N (l:List Gr)=>(∀ g∈l,True)/\l.length < N) (fun l=>[grA l]):=oa_slice (by decide) Tryz.underlying54 (by kernel_rfl) ogr
def okRq (N:Nat) (q:Req):Prop:=q.tok.length < N/\q.key.length < N/\q.val.length < N/\q.old.length < N
theorem orq:OA prog 49 12 okRq eRq:=
 (oa_struct Tryz.underlying49 (by kernel_rfl) (of_cons rfl ou (of_cons rfl obs (of_cons rfl ostr (of_cons rfl ostr (of_cons rfl ostr (of_cons rfl oi (of_cons rfl oi (of_cons rfl oi (of_cons rfl oi (of_cons rfl ogr of_nil))))))))))).map
   (fun d=>(⟨d.1,d.2.1,d.2.2.1,d.2.2.2.1,d.2.2.2.2.1,d.2.2.2.2.2.1,d.2.2.2.2.2.2.1,d.2.2.2.2.2.2.2.1,d.2.2.2.2.2.2.2.2.1,d.2.2.2.2.2.2.2.2.2.1⟩:Req)) (fun _ _ _ hmn h=>⟨by have:=h.1;omega,by have:=h.2.1;omega,by have:=h.2.2.1;omega,by have:=h.2.2.2;omega⟩)
   (fun n d h=>⟨h.2.1.2,h.2.2.1,h.2.2.2.1,h.2.2.2.2.1⟩) fun _=>rfl
def okCall (N:Nat) (c:CallR):Prop:=okRq N c.q/\c.line.length < N/\c.raw.length < N
theorem ocall:OA prog 56 19 okCall eCall:=
 (oa_struct Tryz.underlying56 (by kernel_rfl) (of_cons rfl oi (of_cons rfl oi (of_cons rfl oi (of_cons rfl orq (of_cons rfl oi (of_cons rfl ogrs (of_cons rfl oboo (of_cons rfl obs of_nil))))))))).map
   (fun d=>(⟨d.1,d.2.1,d.2.2.1,d.2.2.2.1,d.2.2.2.2.1,d.2.2.2.2.2.1,d.2.2.2.2.2.2.1,d.2.2.2.2.2.2.2.1⟩:CallR)) (fun _ _ _ hmn h=>⟨⟨by have:=h.1.1;omega,by have:=h.1.2.1;omega,by have:=h.1.2.2.1;omega,by have:=h.1.2.2.2;omega⟩,by have:=h.2.1;omega,by have:=h.2.2;omega⟩)
   (fun n d h=>⟨h.2.2.2.1,h.2.2.2.2.2.1.2,h.2.2.2.2.2.2.2.1.2⟩) fun _=>rfl
theorem ocalls:OA prog 23 1 (fun N (l:List CallR)=>(∀ c∈l,okCall N c)/\l.length < N) (fun l=>[.sl none 19 (l.map eCall)]):=oa_slice (by decide) Tryz.underlying23 (by kernel_rfl) ocall
end
def ten0:Ten:=⟨0,0,sp0,[]⟩
def ofTn (l:List Ten) (n:Int):Ten×Bool:=match l.find? (fun x:Ten=>x.num == n) with
 | some x=>(x,true)
 | none=>(ten0,false)
theorem ofTn_set {l:List Ten} {n:Nat} {x x':Ten} (hn:l[n]? = some x) (hk:x'.num=x.num) {m:Int} (hm:m≠x.num):ofTn (l.set n x') m=ofTn l m:=by
 have:∀ (l:List Ten) (n:Nat),l[n]? = some x->(l.set n x').find? (fun y:Ten=>y.num == m)=l.find? (fun y:Ten=>y.num == m):=by
  intro l
  induction l with
  | nil=>intro n h;simp at h
  | cons a l ih=>
   intro n h
   cases n with
   | zero=>
    simp only [List.getElem?_cons_zero,Option.some.injEq] at h;subst h;rw [List.set_cons_zero,List.find?_cons_of_neg (by simp [hk];omega),List.find?_cons_of_neg (by simp;omega)]
   | succ n=>
    simp only [List.getElem?_cons_succ] at h;rw [List.set_cons_succ,List.find?_cons,List.find?_cons,ih n h]
 unfold ofTn;rw [this l n hn]
theorem ofTn_spc {l:List Ten} {n:Nat} {x x':Ten} (hn:l[n]? = some x) (hk:x'.num=x.num) (hs:x'.spc=x.spc) (m:Int):(ofTn (l.set n x') m).1.spc=(ofTn l m).1.spc:=by
 have:∀ (l:List Ten) (n:Nat),l[n]? = some x->(ofTn (l.set n x') m).1.spc=(ofTn l m).1.spc:=by
  intro l
  induction l with
  | nil=>intro n h;simp at h
  | cons a l ih=>
   intro n h
   cases n with
   | zero=>
    simp only [List.getElem?_cons_zero,Option.some.injEq] at h;subst h;unfold ofTn;rw [List.set_cons_zero,List.find?_cons,List.find?_cons,hk]
    cases (a.num == m)<;>simp [hs]
   | succ n=>
    simp only [List.getElem?_cons_succ] at h;have:=ih n h;unfold ofTn at this ⊢;rw [List.set_cons_succ,List.find?_cons,List.find?_cons]
    cases (a.num == m) with
    | true=>rfl
    | false=>exact this
 exact this l n hn
theorem ofTn_ins {p:Ten->Bool} {x:Ten} {m:Int} (hm:m≠x.num):∀ l:List Ten,ofTn (insL p x l) m=ofTn l m:=by
 have:∀ l:List Ten,(insL p x l).find? (fun y:Ten=>y.num == m)=l.find? (fun y:Ten=>y.num == m):=by
  intro l
  induction l with
  | nil=>rw [insL_nil,List.find?_cons_of_neg (by simp;omega)]
  | cons a l ih=>
   rw [insL_cons];split
   ·rw [List.find?_cons_of_neg (by simp;omega)]
   ·rw [List.find?_cons,List.find?_cons,ih]
 intro l;unfold ofTn;rw [this l]
structure Asked (root:List UInt8) (s s':St) (st:Int) (body:List UInt8) (q:Req) (t:Tok) (n:Nat) (x:Ten):Prop where
 fq:parseRq body=(q,0)
 ft:parT q.tok=(t,0)
 fc:checkT (keyT root t.ten) t=0
 fx:s.tens[n]? = some x
 fnum:x.num=t.ten
 frev:(t.line.any fun g=>hasI x.rev g.ser)=false
 fver:verS (keyT root t.ten) t st (needS q.op)=0
 fneed:¬ (needS q.op=0\/needS q.op=8/\t.ten≠0)
 ferr:(opS root s q st n x).1.err=0
 fto:s'=(opS root s q st n x).2
theorem doS_asked {root:List UInt8} {s:St} {st:Int} {body:List UInt8} (h:(doS root s st body).1.tens≠s.tens):∃ q t n x,Asked root s (doS root s st body).1 st body q t n x:=by
 unfold doS at h ⊢;split at h
 ·exact absurd rfl h
 ·next hm=>
  rw [if_neg hm];split at h
  ·next hq=>
   rw [if_pos hq];unfold doQ at h ⊢;split at h
   ·next ht=>
    rw [if_pos ht];unfold doT at h ⊢;split at h
    ·next hc=>
     rw [if_pos hc]
     cases hf:s.tens.findIdx? (fun x:Ten=>x.num == (parT (parseRq body).1.tok).1.ten) with
     | none=>rw [hf] at h;exact absurd rfl h
     | some n=>
      rw [hf] at h;dsimp only at h ⊢
      cases hx:s.tens[n]? with
      | none=>rw [hx] at h;exact absurd rfl h
      | some x=>
       rw [hx] at h;dsimp only at h ⊢;unfold doX at h ⊢;split at h
       ·exact absurd rfl h
       ·next hr=>
        rw [if_neg hr];split at h
        ·next hv=>
         rw [if_pos hv];split at h
         ·exact absurd rfl h
         ·next hnd=>
          rw [if_neg hnd];split at h
          ·next he=>
           rw [if_pos he];obtain ⟨hl,hp,_⟩:=List.findIdx?_eq_some_iff_getElem.1 hf;have hx':=hx;rw [List.getElem?_eq_getElem hl] at hx'
           cases hx'
           exact ⟨_,_,n,_,⟨Prod.ext rfl hq,Prod.ext rfl ht,hc,hx,by simpa using hp,by simpa using hr,hv,hnd,he,rfl⟩⟩
          ·exact absurd rfl h
        ·exact absurd rfl h
    ·exact absurd rfl h
   ·exact absurd rfl h
  ·exact absurd rfl h
theorem Asked.who {root:List UInt8} {s s':St} {st:Int} {body:List UInt8} {q:Req} {t:Tok} {n:Nat} {x:Ten} (h:Asked root s s' st body q t n x) {m:Int} (hm:(ofTn s'.tens m).1.spc≠(ofTn s.tens m).1.spc) :
 (q.op=6\/q.op=7)/\q.ten=m/\needS q.op=8\/¬ (q.op=6\/q.op=7)/\t.ten=m/\needS q.op=2:=by
 have hto:=h.fto;have he:=h.ferr;subst hto;have k67:q.op=6↔q.op.toNat=6:=⟨fun e=>by rw [e];rfl,fun e=>UInt8.toNat_inj.1 (by simpa using e)⟩;have k7:q.op=7↔q.op.toNat=7:=⟨fun e=>by rw [e];rfl,fun e=>UInt8.toNat_inj.1 (by simpa using e)⟩;rw [k67,k7]
 have hchg:∀ y:Ten,(ofTn (oChg s q n x).2.tens m).1.spc≠(ofTn s.tens m).1.spc->t.ten=m:=fun _ hh=>by
  by_cases e:t.ten=m
  ·exact e
  ·exact absurd (congrArg (fun z:Ten×Bool=>z.1.spc) (ofTn_set (x':={ x with spc:=(chgP q x.spc).1 }) h.fx rfl (m:=m) (by rw [h.fnum];exact fun e2=>e e2.symm))) hh
 unfold opS at hm he;unfold needS;generalize hk:q.op.toNat=k at *
 revert hm he
 split
 ·intro _ hm;exact absurd rfl hm
 ·intro _ hm;exact .inr ⟨by omega,hchg x hm,rfl⟩
 ·intro _ hm;exact .inr ⟨by omega,hchg x hm,rfl⟩
 ·intro _ hm;exact .inr ⟨by omega,hchg x hm,rfl⟩
 ·intro _ hm;exact absurd rfl hm
 ·intro _ hm;refine .inl ⟨.inl rfl,?_,rfl⟩
  by_cases e:q.ten=m
  ·exact e
  ·refine absurd ?_ hm;unfold oCre;split
   ·exact congrArg (fun z:Ten×Bool=>z.1.spc) (ofTn_ins (x:=⟨q.ten,0,(newP q.keys q.spc).1,[]⟩) (fun e2=>e e2.symm) s.tens)
   ·rfl
 ·intro _ hm;refine .inl ⟨.inr rfl,?_,rfl⟩
  by_cases e:q.ten=m
  ·exact e
  ·refine absurd ?_ hm;unfold oRsz;split
   ·split
    ·rfl
    ·next i hf=>
     split
     ·rfl
     ·next y hy=>
      split
      ·rfl
      ·have hyn:y.num=q.ten:=by
        obtain ⟨hl,hp,_⟩:=List.findIdx?_eq_some_iff_getElem.1 hf;rw [List.getElem?_eq_getElem hl] at hy
        cases hy
        simpa using hp
       exact congrArg (fun z:Ten×Bool=>z.1.spc) (ofTn_set (x':={ y with spc:=⟨q.keys,q.spc,y.spc.prs⟩ }) hy rfl (m:=m) (by rw [hyn];exact fun e2=>e e2.symm))
   ·rfl
 ·intro _ hm;refine absurd ?_ hm;unfold oGnt;split
  ·rfl
  ·split
   ·rfl
   ·next i _ y hy=>
    split
    ·rfl
    ·split
     ·rfl
     ·split
      ·exact ofTn_spc (x':={ y with ser:=y.ser + 1 }) hy rfl rfl m
      ·rfl
 ·intro _ hm;refine absurd ?_ hm;unfold oRev;split
  ·rfl
  ·split
   ·rfl
   ·next i _ y hy=>
    split
    ·exact ofTn_spc (x':={ y with rev:=(addR y.rev q.n).1 }) hy rfl rfl m
    ·rfl
 ·intro _ hm;exact absurd rfl hm
 ·intro _ hm;exact absurd rfl hm
theorem ver_facts {key:List UInt8} {t:Tok} {now:Int} {need:UInt8} (h:verS key t now need=0) (hc:checkT key t=0):now < (leavesS t.line).2.1/\hasR (leavesS t.line).1 need=true/\(leavesS t.line).2.2=0:=by
 unfold verS at h;rw [if_pos hc] at h
 have hm:mayT t=true:=by
  unfold checkT at hc;split at hc
  ·cases hc
  ·next hm=>simpa using hm
 have hl:lineS t.line=true:=by
  simp only [mayT,Bool.and_eq_true] at hm;exact hm.2
 split at h
 ·cases h
 ·next h1=>
  split at h
  ·cases h
  ·next h2=>exact ⟨by omega,by simpa using h2,by unfold leavesS;rw [if_pos hl]⟩
theorem step_asked {root:List UInt8} {s:St} {c:CallR} (h:(stepS root s c).1.tens≠s.tens):∃ q t n x s',Asked root s s' c.st (bodyS root c) q t n x/\(stepS root s c).1.tens=s'.tens:=by
 unfold stepS applyS at h ⊢;split at h
 ·exact absurd rfl h
 ·next hb=>
  rw [if_neg hb];split at h
  ·exact absurd rfl h
  ·next h1=>
   rw [if_neg h1];split at h
   ·exact absurd rfl h
   ·next h2=>
    rw [if_neg h2];obtain ⟨q,t,n,x,ha⟩:=doS_asked (root:=root) (s:=s) (st:=c.st) (body:=bodyS root c) h;exact ⟨q,t,n,x,_,ha,rfl⟩
theorem stof_ac (s:St) (hs:s.small) (n:Int):AF 10 [.ag (eSt s),I n] (.tu [.ag (eTe (ofTn s.tens n).1),B (ofTn s.tens n).2]):=by
 have h1:=stat_ac s hs.t n;unfold idxT at h1;rcases idxF_cases (fun x:Ten=>x.num == n) s.tens with ⟨e,hn⟩|⟨k,x,e,hx,hp,hn⟩
 ·rw [e] at h1;rw [show ofTn s.tens n=(ten0,false) by unfold ofTn;rw [find_no hn]];have q1:decide ((0:Int) <= -1)=false:=rfl;refine AC.E func10 ntmps10 ?_;intros;iterate 2 refine CP.SL ?_
  repeat' (first|((first|refine wA1 ?_|(refine GA ?_ ?_<;>intro hg)|(refine GV ?_;intros;simp only [nz])|refine wA6 ?_)<;>try refine wN0 ?_)|refine wT3 ?_|with_reducible intro Q' hQ'|(refine GC ?_ ?_<;>intro hc)|simp only [laq])
  exact RA0
 ·rw [e] at h1;rw [show ofTn s.tens n=(x,true) by unfold ofTn;rw [find_at (p:=fun x:Ten=>x.num == n) hx hp hn]];have hr:(s.tens.map eTe)[k]? = some (eTe x):=by rw [List.getElem?_map,hx];rfl
  have q1:decide (0<=(k:Int))=true:=decide_eq_true (by omega);have hnl:=(List.getElem?_eq_some_iff.1 hx).1;have ht:=hs.s x (List.mem_of_getElem? hx);have h2:=tcopied_ac x ht.p ht.r;refine AC.E func10 ntmps10 ?_;intros;iterate 2 refine CP.SL ?_
  repeat' (first|((first|refine wA1 ?_|(refine GA ?_ ?_<;>intro hg)|(refine GV ?_;intros;simp only [nz])|refine wA6 ?_)<;>try refine wN0 ?_)|refine wT3 ?_|with_reducible intro Q' hQ'|(refine GC ?_ ?_<;>intro hc)|simp only [laq])
  exact RA0
instance:DecidableEq Pr:=fun a b=>decidable_of_iff (a.key=b.key/\a.val=b.val) (by cases a;cases b;simp)
instance:DecidableEq Spc:=fun a b=>decidable_of_iff (a.keys=b.keys/\a.bytes=b.bytes/\a.prs=b.prs) (by cases a;cases b;simp)
theorem eqPr (a b:Pr):eqVs [str a.key,str a.val] [str b.key,str b.val]=decide (a=b):=by
 obtain ⟨a1,a2⟩:=a;obtain ⟨b1,b2⟩:=b;simp only [eqVs,eqV1,Bool.and_true,Pr.mk.injEq];rw [Bool.eq_iff_iff];simp
theorem eqpr_ac (a b:List Pr) (ha:a.length<=100000000):AF 32 [prsA a,prsA b] (B (decide (a=b))):=by
 by_cases hl:a.length=b.length
 ·have q0:((a.length:Int) != (b.length:Int))=false:=by rw [hl];simp
  refine AC.E func32 ntmps32 ?_;intro X hρ hmks
  repeat' (first|((first|refine wA1 ?_|(refine GA ?_ ?_<;>intro hg)|(refine GV ?_;intros;simp only [nz])|refine wA6 ?_|refine wD1 ?_)<;>try refine wN5 ?_)|refine wT6 ?_|with_reducible intro Q' hQ'|(refine GC ?_ ?_<;>intro hc)|simp only [laq])
  refine cp_loopS [4,5,13,14,15,16,17,18,19,20,21,22,23,24,25] (fun k:Nat=>a.length - k) (fun k=>k<=a.length/\decide (a=b)=decide (a.drop k=b.drop k)) (fun k=>[(13,I k)]) (fun _=>[]) 0 ⟨Nat.zero_le _,rfl⟩ (by exact Gh.W) ?_;rintro k ⟨hk,he⟩;refine ST0 ?_
  by_cases hlt:k < a.length
  ·have q1:decide ((k:Int) < (a.length:Int))=true:=by simp;omega
   have q2:IntKind.i64.wrap ((k:Int) + 1)=((k + 1:Nat):Int):=wrap_i64 (by omega) (by omega);have hltb:k < b.length:=by omega
   have hr1:(a.map ePr)[k]? = some (ePr a[k]):=by rw [List.getElem?_map,List.getElem?_eq_getElem hlt];rfl
   have hr2:(b.map ePr)[k]? = some (ePr b[k]):=by rw [List.getElem?_map,List.getElem?_eq_getElem hltb];rfl
   rw [List.drop_eq_getElem_cons hlt,List.drop_eq_getElem_cons hltb] at he;have hq:=eqPr a[k] b[k];generalize a[k]=x at *;generalize b[k]=y at *
   by_cases hxy:x=y
   ·rw [decide_eq_true hxy] at hq;subst hxy
    repeat' (first|((first|refine wA1 ?_|(refine GA ?_ ?_<;>intro hg)|(refine GV ?_;intros;simp only [nz])|refine wA13 ?_|refine wA6 ?_|refine wD4 ?_|((with_reducible apply DW.k_any);refine DW.known rfl ?_;(with_reducible first|apply DW.sx 2);(iterate 2 (focus (simp only [ft,nm,Nat.reduceAdd,Nat.reduceBEq,List.getElem?_cons_zero,List.getElem?_cons_succ];exact rfl)));(focus (intro X V;simp only [ft,nm,Nat.reduceAdd,Nat.reduceBEq];(try (refine AP.Y ?_;dsimp only));(first|refine AP.EQ ?_|fail);(try refine NX ?_);refine AP.nil ?_;(first|refine ⟨trivial,rfl,?_⟩|refine ⟨rfl,rfl,?_⟩);(repeat' (first|exact Mg.nil|apply Mg.keep rfl|apply Mg.take rfl));done));(focus (refine Exists.intro (fun _=>0) ?_;apply Exists.intro;(repeat' (first|exact Mg.nil|apply Mg.keep rfl|apply Mg.take rfl));done));(iterate 2 (focus (exact rfl)))))<;>(try simp only [q1,q2,hq,Bool.not_true,nq,Nat.reduceBEq,Nat.reduceAdd,Nat.reduceSub]))|refine wT6 ?_|with_reducible intro Q' hQ'|(refine GC ?_ ?_<;>intro hc)|simp only [laq])
    exact ⟨k + 1,by omega,⟨by omega,by rw [he];simp⟩,by exact Gh.W⟩
   ·rw [decide_eq_false hxy] at hq
    repeat' (first|((first|refine wA1 ?_|(refine GA ?_ ?_<;>intro hg)|(refine GV ?_;intros;simp only [nz])|refine wA13 ?_|refine wA6 ?_|refine wD4 ?_|((with_reducible apply DW.k_any);refine DW.known rfl ?_;(with_reducible first|apply DW.sx 2);(iterate 2 (focus (simp only [ft,nm,Nat.reduceAdd,Nat.reduceBEq,List.getElem?_cons_zero,List.getElem?_cons_succ];exact rfl)));(focus (intro X V;simp only [ft,nm,Nat.reduceAdd,Nat.reduceBEq];(try (refine AP.Y ?_;dsimp only));(first|refine AP.EQ ?_|fail);(try refine NX ?_);refine AP.nil ?_;(first|refine ⟨trivial,rfl,?_⟩|refine ⟨rfl,rfl,?_⟩);(repeat' (first|exact Mg.nil|apply Mg.keep rfl|apply Mg.take rfl));done));(focus (refine Exists.intro (fun _=>0) ?_;apply Exists.intro;(repeat' (first|exact Mg.nil|apply Mg.keep rfl|apply Mg.take rfl));done));(iterate 2 (focus (exact rfl)))))<;>(try simp only [q1,q2,hq,Bool.not_false,nq,Nat.reduceBEq,Nat.reduceAdd,Nat.reduceSub]))|refine wT6 ?_|with_reducible intro Q' hQ'|(refine GC ?_ ?_<;>intro hc)|simp only [laq])
    have e:decide (a=b)=false:=by rw [he];simp [hxy]
    rw [e];exact RA0
  ·obtain rfl:k=a.length:=by omega
   have q1:decide ((a.length:Int) < (a.length:Int))=false:=by simp
   have e:decide (a=b)=true:=by rw [he,List.drop_length,hl,List.drop_length];simp
   rw [e]
   repeat' (first|((first|refine wA1 ?_|(refine GA ?_ ?_<;>intro hg)|(refine GV ?_;intros;simp only [nz])|refine wA6 ?_|refine wD1 ?_)<;>try refine wN0 ?_)|refine wT6 ?_|with_reducible intro Q' hQ'|(refine GC ?_ ?_<;>intro hc)|simp only [laq])
   exact RA0
 ·have q0:((a.length:Int) != (b.length:Int))=true:=by rw [bne_iff_ne];omega
  have e:decide (a=b)=false:=decide_eq_false (fun h=>hl (by rw [h]));rw [e];refine AC.E func32 ntmps32 ?_;intro X hρ hmks
  repeat' (first|((first|refine wA1 ?_|(refine GA ?_ ?_<;>intro hg)|(refine GV ?_;intros;simp only [nz])|refine wA6 ?_|refine wD1 ?_)<;>try refine wN5 ?_)|refine wT6 ?_|with_reducible intro Q' hQ'|(refine GC ?_ ?_<;>intro hc)|simp only [laq])
  exact RA0
theorem spsame_ac (a b:Spc) (ha:a.prs.length<=100000000):AF 11 [.ag (eSp a),.ag (eSp b)] (B (decide (a=b))):=by
 obtain ⟨k1,b1,p1⟩:=a;obtain ⟨k2,b2,p2⟩:=b;have h1:=eqpr_ac p1 p2 ha
 by_cases q1:k1=k2
 ·by_cases q2:b1=b2
  ·have e:decide ((⟨k1,b1,p1⟩:Spc)=⟨k2,b2,p2⟩)=decide (p1=p2):=by simp [q1,q2]
   rw [e];have q1':(k1 == k2)=true:=by simpa using q1
   have q2':(b1 == b2)=true:=by simpa using q2
   generalize decide (p1=p2)=d at *;refine AC.E func11 ntmps11 ?_;intros;iterate 2 refine CP.SL ?_
   repeat' (first|((first|refine wA1 ?_|(refine GA ?_ ?_<;>intro hg)|(refine GV ?_;intros;simp only [nz])|refine wA6 ?_)<;>try refine wN13 ?_)|refine wT3 ?_|with_reducible intro Q' hQ'|(refine GC ?_ ?_<;>intro hc)|simp only [laq])
   exact RA0
  ·have e:decide ((⟨k1,b1,p1⟩:Spc)=⟨k2,b2,p2⟩)=false:=by simp [q2]
   rw [e];have q1':(k1 == k2)=true:=by simpa using q1
   have q2':(b1 == b2)=false:=by simpa using q2
   clear h1;refine AC.E func11 ntmps11 ?_;intros;iterate 2 refine CP.SL ?_
   repeat' (first|((first|refine wA1 ?_|(refine GA ?_ ?_<;>intro hg)|(refine GV ?_;intros;simp only [nz])|refine wA6 ?_)<;>try refine wN13 ?_)|refine wT3 ?_|with_reducible intro Q' hQ'|(refine GC ?_ ?_<;>intro hc)|simp only [laq])
   exact RA0
 ·have e:decide ((⟨k1,b1,p1⟩:Spc)=⟨k2,b2,p2⟩)=false:=by simp [q1]
  rw [e];have q1':(k1 == k2)=false:=by simpa using q1
  clear h1;refine AC.E func11 ntmps11 ?_;intros;iterate 2 refine CP.SL ?_
  repeat' (first|((first|refine wA1 ?_|(refine GA ?_ ?_<;>intro hg)|(refine GV ?_;intros;simp only [nz])|refine wA6 ?_)<;>try refine wN22 ?_)|refine wT3 ?_|with_reducible intro Q' hQ'|(refine GC ?_ ?_<;>intro hc)|simp only [laq])
  exact RA0
structure RightOk (root:List UInt8) (s:St) (c:CallR) (m:Int) (q:Req) (t:Tok) (x:Ten):Prop where
 fq:parseRq (bodyS root c)=(q,0)
 ft:parT q.tok=(t,0)
 fc:checkT (keyT root t.ten) t=0
 fx:ofTn s.tens t.ten=(x,true)
 fs:x.small
 frev:∀ g∈t.line,∀ z∈x.rev,z≠g.ser
 fexp:c.st < (leavesS t.line).2.1
 fle:(leavesS t.line).2.2=0
 fwho:(q.op=6\/q.op=7)/\q.ten=m/\t.ten=0/\hasR (leavesS t.line).1 8=true\/¬ (q.op=6\/q.op=7)/\t.ten=m/\hasR (leavesS t.line).1 2=true
theorem right_ok {k:Nat} {root:List UInt8} {s:St} {c:CallR} (hI:Inv k s) {m:Int} (hne:(ofTn (stepS root s c).1.tens m).1.spc≠(ofTn s.tens m).1.spc):∃ q t x,RightOk root s c m q t x:=by
 obtain ⟨q,t,n,x,s',ha,hto⟩:=step_asked (root:=root) (s:=s) (c:=c) (fun e=>hne (by rw [e]));rw [hto] at hne;have hw:=ha.who hne;obtain ⟨v1,v2,v3⟩:=ver_facts ha.fver ha.fc;have hxm:=List.mem_of_getElem? ha.fx;obtain ⟨_,_,_,_,h5⟩:=maySt_of hI.may;have hr:=ascB_rise (key:=Ten.num) (ok:=tenS s.sh) h5;refine ⟨q,t,x,ha.fq,ha.ft,ha.fc,?_,maySt_small hI.may x hxm,?_,v1,v3,?_⟩
 ·unfold ofTn
  cases hf:s.tens.find? (fun y:Ten=>y.num == t.ten) with
  | none=>exact absurd (List.find?_eq_none.1 hf x hxm) (by simp [ha.fnum])
  | some y=>
   have hy:y.num=t.ten:=by simpa using List.find?_some hf
   rw [rise_inj hr (List.mem_of_find?_eq_some hf) hxm (by rw [hy,ha.fnum])]
 ·intro g hg z hz e;have h1:=List.any_eq_false.1 ha.frev g hg;unfold hasI at h1;exact h1 (List.any_eq_true.2 ⟨z,hz,by simpa using e⟩)
 ·rcases hw with ⟨h1,h2,h3⟩|⟨h1,h2,h3⟩
  ·refine .inl ⟨h1,h2,?_,by rw [h3] at v2;exact v2⟩;exact Decidable.byContradiction fun h=>ha.fneed (.inr ⟨h3,h⟩)
  ·exact .inr ⟨h1,h2,by rw [h3] at v2;exact v2⟩
