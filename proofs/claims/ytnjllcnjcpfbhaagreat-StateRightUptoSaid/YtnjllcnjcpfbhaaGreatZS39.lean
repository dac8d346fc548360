/- Parts. -/
import Derived.Test.YtnjllcnjcpfbhaaGreatZS38
namespace Go.Proofs.YtnjllcnjcpfbhaaGreat
set_option linter.unusedVariables false
set_option linter.unusedSimpArgs false
open Go.RowKit Go.Proofs.Tryz
set_option maxRecDepth 100000
set_option maxHeartbeats 8000000
theorem dformRq_ac (q:Req) (hl:q.tok.length + q.key.length + q.val.length + q.old.length<=100000):AF 43 [.ag (eRq q)] (bs (some tU) (formRq q)):=by
 have hb (l:List UInt8) (h:l.length<=100000):AF 92 [bs none l] (bs none (bytesF' l)):=AC.ro (r:=bs (some tU) (bytesF' l)) (dbytes_ac l (by omega)) (by simp only [AV.ro,ro_B]);have b1:=hb q.tok (by omega);have b2:=hb q.key (by omega);have b3:=hb q.val (by omega);have b4:=hb q.old (by omega);have hbl (l:List UInt8):(bytesF' l).length=4 + l.length:=by unfold bytesF';rw [List.length_append,putS_length]
 have c1:=hbl q.tok;have c2:=hbl q.key;have c3:=hbl q.val;have c4:=hbl q.old;have n1:=dint_ac q.n;have n2:=dint_ac q.ten;have n3:=dint_ac q.keys;have n4:=dint_ac q.spc;have n5:=dint_ac q.g.exp;have n6:=dint_ac q.g.ser;have hi (n:Int):(intS n).length=8:=putS_length _ _;have i1:=hi q.n;have i2:=hi q.ten;have i3:=hi q.keys;have i4:=hi q.spc;have i5:=hi q.g.exp;have i6:=hi q.g.ser;have e:formRq q=[q.op] ++ bytesF' q.tok ++ bytesF' q.key ++ bytesF' q.val ++ bytesF' q.old ++ intS q.n ++ intS q.ten ++ intS q.keys ++ intS q.spc ++ [q.g.rts] ++ intS q.g.exp ++ intS q.g.ser:=by unfold formRq;simp only [List.append_assoc]
 rw [e];have z1:(⟨q.key.toArray⟩:ByteArray).size<=1000000:=by rw [bsz];omega
 have z2:(⟨q.val.toArray⟩:ByteArray).size<=1000000:=by rw [bsz];omega
 have z3:(⟨q.old.toArray⟩:ByteArray).size<=1000000:=by rw [bsz];omega
 have w1:IntKind.i64.wrap (0 + 1)=1:=rfl;have w2:IntKind.i64.wrap (1 + 1)=2:=rfl;have w3:IntKind.i64.wrap (2 + 1)=3:=rfl;have w4:IntKind.i64.wrap (3 + 1)=4:=rfl;clear e hb hbl hi;generalize bytesF' q.tok=B1 at *;generalize bytesF' q.key=B2 at *;generalize bytesF' q.val=B3 at *;generalize bytesF' q.old=B4 at *;generalize intS q.n=N1 at *;generalize intS q.ten=N2 at *;generalize intS q.keys=N3 at *;generalize intS q.spc=N4 at *;generalize intS q.g.exp=N5 at *;generalize intS q.g.ser=N6 at *
 rw [show bs (some tU) ([q.op] ++ B1 ++ B2 ++ B3 ++ B4 ++ N1 ++ N2 ++ N3 ++ N4 ++ [q.g.rts] ++ N5 ++ N6)=.sl (some tU) 1 ([U q.op] :: (List.map eB (B1 ++ B2 ++ B3 ++ B4 ++ N1 ++ N2 ++ N3 ++ N4) ++ [[U q.g.rts]] ++ List.map eB N5 ++ List.map eB N6)) by
  refine congrArg (AV.sl (some tU) 1) ?_;simp only [List.map_append,List.map_cons,List.map_nil,List.cons_append,List.nil_append,List.append_assoc]]
 refine AC.E func43 ntmps43 ?_;intros;iterate 5 refine CP.SL ?_
 repeat' (first|((first|refine wA1 ?_|(refine GA ?_ ?_<;>intro hg)|(refine GV ?_;intros;simp only [nz])|refine aC1 b1 ?_|refine aC1 b2 ?_|refine aC1 b3 ?_|refine aC1 b4 ?_|refine aC1 n1 ?_|refine aC1 n2 ?_|refine aC1 n3 ?_|refine aC1 n4 ?_|refine aC1 n5 ?_|refine aC1 n6 ?_|refine wA5 ?_|refine wA6 ?_)<;>(try simp only [w1,w2,w3,w4,←List.map_append,nq,Nat.reduceBEq,Nat.reduceAdd,Nat.reduceSub]))|refine wT3 ?_|with_reducible intro Q' hQ'|(refine GC ?_ ?_<;>intro hc)|simp only [laq])
 refine cp_rounds 5 ?_
 repeat' (first|((first|refine wA1 ?_|(refine GA ?_ ?_<;>intro hg)|(refine GV ?_;intros;simp only [nz])|refine aC1 b1 ?_|refine aC1 b2 ?_|refine aC1 b3 ?_|refine aC1 b4 ?_|refine aC1 n1 ?_|refine aC1 n2 ?_|refine aC1 n3 ?_|refine aC1 n4 ?_|refine aC1 n5 ?_|refine aC1 n6 ?_|refine wA5 ?_|refine wA6 ?_)<;>(try simp only [w1,w2,w3,w4,←List.map_append,nq,Nat.reduceBEq,Nat.reduceAdd,Nat.reduceSub]))|refine wT3 ?_|with_reducible intro Q' hQ'|(refine GC ?_ ?_<;>intro hc)|simp only [laq])
 exact RA0
def toldS (root:List UInt8) (s:St) (t:Tok) (st:Int) (q:Req):St×Rep:=doS root s st (formRq { q with tok:=tokP t })
structure TokOk (root:List UInt8) (t:Tok):Prop where
 may:mayT t=true
 tag:t.tag=tokT (keyT root t.ten) t.ten t.line
theorem TokOk.len {root:List UInt8} {t:Tok} (h:TokOk root t):t.tag.length=32:=by rw [h.tag];cases t.line with
 | nil=>rfl
 | cons g l=>rw [tokT];exact tokF_len l _ rfl
def i64R (q:Req):Prop:=I64 q.n/\I64 q.ten/\I64 q.keys/\I64 q.spc/\I64 q.g.exp/\I64 q.g.ser
theorem tokP_le {root:List UInt8} {t:Tok} (h:TokOk root t):(tokP t).length<=144:=by
 have hm:=h.may;simp only [mayT,lineS,Bool.and_eq_true,decide_eq_true_eq] at hm;unfold tokP;rw [if_pos h.may,List.length_append,List.length_append,grN_flat_len,h.len,nuL_length];simp;omega
theorem told_eq {root:List UInt8} {s:St} {t:Tok} {st:Int} {q:Req} {n:Nat} {x:Ten} (hm:maySt s=true) (ht:TokOk root t) (hs:((shpR q).1 && bareR (shpR q).2)=true) (hop:q.op.toNat<=10) (hq:mayReq { q with tok:=tokP t }=true) (hl:q.key.length + q.val.length + q.old.length<=500) (hi:i64R q) (hf:s.tens.findIdx? (fun y:Ten=>y.num == t.ten)=some n) (hx:s.tens[n]? = some x) :
 toldS root s t st q=doX root s st { q with tok:=tokP t } t n x:=by
 have h1:=tokP_le ht;obtain ⟨i1,i2,i3,i4,i5,i6⟩:=hi;have hp:=parse_rq (q:={ q with tok:=tokP t }) hq (by rw [formRq_len];dsimp only;omega) i1 i2 i3 i4 i5 i6;have hT:=parT_print ht.may ht.len;unfold toldS doS;rw [if_neg (by rw [hm];simp),hp,if_pos rfl];unfold doQ;dsimp only;rw [hT,if_pos rfl];unfold doT;dsimp only
 have hc:checkT (keyT root t.ten) t=0:=by
  unfold checkT;rw [if_neg (by rw [ht.may];simp),if_pos ht.tag.symm]
 rw [if_pos hc,hf];dsimp only;rw [hx]
theorem doX_eq {root:List UInt8} {s:St} {st:Int} {q:Req} {t:Tok} {n:Nat} {x:Ten} (ht:TokOk root t):doX root s st q t n x =
 if (t.line.any fun g=>hasI x.rev g.ser)=true then (s,failR 93)
 else if (leavesS t.line).2.1<=st then (s,failR 92) else if hasR (leavesS t.line).1 (needS q.op)=false then (s,failR 94)
 else if needS q.op=0\/needS q.op=8/\t.ten≠0 then (s,failR 94)
 else if (opS root s q st n x).1.err=0 then ((opS root s q st n x).2,(opS root s q st n x).1) else (s,failR (opS root s q st n x).1.err):=by
 have hc:checkT (keyT root t.ten) t=0:=by
  unfold checkT;rw [if_neg (by rw [ht.may];simp),if_pos ht.tag.symm]
 unfold doX verS;rw [if_pos hc];split
 ·rfl
 ·split
  ·rw [if_neg (by decide)]
  ·split
   ·rw [if_neg (by decide)]
   ·rw [if_pos rfl]
abbrev g0:Gr:=⟨15,1099511627776,1⟩
abbrev g1:Gr:=⟨7,50,1⟩
def adm (root:List UInt8):Tok:=⟨0,[g0],tokT (keyT root 0) 0 [g0]⟩
def one (root:List UInt8):Tok:=⟨1,[g1],tokT (keyT root 1) 1 [g1]⟩
theorem adm_ok (root:List UInt8):TokOk root (adm root):=⟨by unfold adm mayT lineS;rfl,rfl⟩
theorem one_ok (root:List UInt8):TokOk root (one root):=⟨by unfold one mayT lineS;rfl,rfl⟩
abbrev kA:List UInt8:=[97]
abbrev k1:List UInt8:=[49]
abbrev k2:List UInt8:=[50]
abbrev qCre:Req:={ req0 with op:=6,ten:=1,keys:=4,spc:=100 }
abbrev qGnt:Req:={ req0 with op:=8,ten:=1,g:=⟨7,50,0⟩ }
abbrev qPut:Req:={ req0 with op:=2,key:=kA,val:=k1 }
abbrev qGet:Req:={ req0 with op:=1,key:=kA }
abbrev qPut2:Req:={ req0 with op:=2,key:=kA,val:=k2 }
abbrev qCre2:Req:={ req0 with op:=6,ten:=2 }
abbrev qRev:Req:={ req0 with op:=9,ten:=1,n:=1 }
abbrev qAud (n:Int):Req:={ req0 with op:=10,n:=n }
abbrev lkA:List Lnk:=addL [] 1 6 1 4 100 0
abbrev lkB:List Lnk:=addL lkA 2 8 1 7 50 1
abbrev lkC:List Lnk:=addL lkB 49 9 1 1 0 0
abbrev tn0:Ten:=⟨0,1,sp0,[]⟩
abbrev w1:St:=⟨0,[⟨1,4,100⟩],[tn0,⟨1,0,⟨4,100,[]⟩,[]⟩],lkA,[]⟩
abbrev w2:St:=⟨0,[⟨1,4,100⟩],[tn0,⟨1,1,⟨4,100,[]⟩,[]⟩],lkB,[]⟩
abbrev w3:St:=⟨0,[⟨1,4,100⟩],[tn0,⟨1,1,⟨4,100,[⟨kA,k1⟩]⟩,[]⟩],lkB,[]⟩
abbrev w4:St:=⟨0,[⟨1,4,100⟩],[tn0,⟨1,1,⟨4,100,[⟨kA,k1⟩]⟩,[1]⟩],lkC,[]⟩
theorem may_w (L:List Lnk):maySt { st0 with links:=L }=true/\maySt { w1 with links:=L }=true/\maySt { w2 with links:=L }=true/\maySt { w3 with links:=L }=true/\maySt { w4 with links:=L }=true:=by
 refine ⟨?_,?_,?_,?_,?_⟩<;>rfl
theorem mayReq_of {q:Req} {t:List UInt8} (ht:t.length<=144) (hop:q.op.toNat<=10) (hs:((shpR { q with tok:=t }).1 && bareR (shpR { q with tok:=t }).2)=true):mayReq { q with tok:=t }=true:=by
 unfold mayReq;rw [hs,decide_eq_true (by dsimp only;exact hop),decide_eq_true (by dsimp only;omega)];rfl
section
section
variable {root:List UInt8} {s s':St} {t:Tok} {st:Int} {q:Req} {n:Nat} {x:Ten} {r:Rep}
theorem told_row (hm:maySt s=true) (ht:TokOk root t) (hop:q.op.toNat<=10) (hs:∀ T,((shpR { q with tok:=T }).1 && bareR (shpR { q with tok:=T }).2)=true) (hl:q.key.length + q.val.length + q.old.length<=500) (hi:i64R q) (hf:s.tens.findIdx? (fun y:Ten=>y.num == t.ten)=some n) (hx:s.tens[n]? = some x)
 (h1:(t.line.any fun g=>hasI x.rev g.ser)=false) (h2:¬ (leavesS t.line).2.1<=st) (h3:hasR (leavesS t.line).1 (needS q.op)=true) (h4:¬ (needS q.op=0\/needS q.op=8/\t.ten≠0)) (h5:∀ T,opS root s { q with tok:=T } st n x=(r,s')) :
 toldS root s t st q=if r.err=0 then (s',r) else (s,failR r.err):=by
 rw [told_eq hm ht (hs q.tok) hop (mayReq_of (tokP_le ht) hop (hs _)) hl hi hf hx,doX_eq ht,if_neg (by rw [h1];simp),if_neg h2,if_neg (by rw [h3];simp),if_neg h4,h5]
theorem told_no (hm:maySt s=true) (ht:TokOk root t) (hop:q.op.toNat<=10) (hs:∀ T,((shpR { q with tok:=T }).1 && bareR (shpR { q with tok:=T }).2)=true) (hl:q.key.length + q.val.length + q.old.length<=500) (hi:i64R q) (hf:s.tens.findIdx? (fun y:Ten=>y.num == t.ten)=some n) (hx:s.tens[n]? = some x)
 {e:Int} (h1:(t.line.any fun g=>hasI x.rev g.ser)=true/\e=93\/(t.line.any fun g=>hasI x.rev g.ser)=false/\((leavesS t.line).2.1<=st/\e=92\/¬ (leavesS t.line).2.1<=st/\hasR (leavesS t.line).1 (needS q.op)=false/\e=94)) :
 toldS root s t st q=(s,failR e):=by
 rw [told_eq hm ht (hs q.tok) hop (mayReq_of (tokP_le ht) hop (hs _)) hl hi hf hx,doX_eq ht];rcases h1 with ⟨h1,rfl⟩|⟨h1,⟨h2,rfl⟩|⟨h2,h3,rfl⟩⟩
 ·rw [if_pos h1]
 ·rw [if_neg (by rw [h1];simp),if_pos h2]
 ·rw [if_neg (by rw [h1];simp),if_neg h2,if_pos h3]
end
variable (root:List UInt8)
theorem i64s:i64R qCre/\i64R qGnt/\i64R qPut/\i64R qGet/\i64R qPut2/\i64R qCre2/\i64R qRev/\i64R (qAud 3)/\i64R (qAud 4):=by
 simp [i64R,I64,req0]
def rpB:Rep:={ rp0 with val:=tokP (one root),n:=1 }
theorem row_a:toldS root st0 (adm root) 1 qCre=(w1,rp0):=
 told_row (n:=0) (x:=tn0) (s':=w1) (r:=rp0) (may_w []).1 (adm_ok root) (by decide) (fun _=>rfl) (by decide) i64s.1 rfl rfl rfl (by show ¬ (leavesS [g0]).2.1<=1;decide) (by show hasR (leavesS [g0]).1 (needS 6)=true;decide) (by show ¬ (needS 6=0\/needS 6=8/\(0:Int)≠0);decide) (fun T=>by kernel_rfl)
theorem row_b:toldS root w1 (adm root) 2 qGnt=(w2,rpB root):=
 told_row (n:=0) (x:=tn0) (s':=w2) (r:=rpB root) (may_w lkA).2.1 (adm_ok root) (by decide) (fun _=>rfl) (by decide) i64s.2.1 rfl rfl rfl (by show ¬ (leavesS [g0]).2.1<=2;decide) (by show hasR (leavesS [g0]).1 (needS 8)=true;decide) (by show ¬ (needS 8=0\/needS 8=8/\(0:Int)≠0);decide) (fun T=>by kernel_rfl)
theorem row_c:toldS root w2 (one root) 49 qPut=(w3,rp0):=
 told_row (n:=1) (x:=⟨1,1,⟨4,100,[]⟩,[]⟩) (s':=w3) (r:=rp0) (may_w lkB).2.2.1 (one_ok root) (by decide) (fun _=>rfl) (by decide) i64s.2.2.1 rfl rfl rfl (by show ¬ (leavesS [g1]).2.1<=49;decide) (by show hasR (leavesS [g1]).1 (needS 2)=true;decide) (by show ¬ (needS 2=0\/needS 2=8/\(1:Int)≠0);decide) (fun T=>by kernel_rfl)
theorem row_d:toldS root w3 (one root) 49 qGet=(w3,{ rp0 with val:=k1 }):=
 told_row (n:=1) (x:=⟨1,1,⟨4,100,[⟨kA,k1⟩]⟩,[]⟩) (s':=w3) (r:={ rp0 with val:=k1 }) (may_w lkB).2.2.2.1 (one_ok root) (by decide) (fun _=>rfl) (by decide) i64s.2.2.2.1 rfl rfl rfl (by show ¬ (leavesS [g1]).2.1<=49;decide) (by show hasR (leavesS [g1]).1 (needS 1)=true;decide) (by show ¬ (needS 1=0\/needS 1=8/\(1:Int)≠0);decide) (fun T=>by kernel_rfl)
theorem row_f:toldS root w3 (one root) 50 qPut2=(w3,failR 92):=
 told_no (n:=1) (x:=⟨1,1,⟨4,100,[⟨kA,k1⟩]⟩,[]⟩) (may_w lkB).2.2.2.1 (one_ok root) (by decide) (fun _=>rfl) (by decide) i64s.2.2.2.2.1 rfl rfl (.inr ⟨rfl,.inl ⟨(by show (leavesS [g1]).2.1<=50;decide),rfl⟩⟩)
theorem row_g:toldS root w3 (one root) 49 qCre2=(w3,failR 94):=
 told_no (n:=1) (x:=⟨1,1,⟨4,100,[⟨kA,k1⟩]⟩,[]⟩) (may_w lkB).2.2.2.1 (one_ok root) (by decide) (fun _=>rfl) (by decide) i64s.2.2.2.2.2.1 rfl rfl (.inr ⟨rfl,.inr ⟨(by show ¬ (leavesS [g1]).2.1<=49;decide),(by show hasR (leavesS [g1]).1 (needS 6)=false;decide),rfl⟩⟩)
theorem row_h:toldS root w3 (adm root) 49 qRev=(w4,rp0):=
 told_row (n:=0) (x:=tn0) (s':=w4) (r:=rp0) (may_w lkB).2.2.2.1 (adm_ok root) (by decide) (fun _=>rfl) (by decide) i64s.2.2.2.2.2.2.1 rfl rfl rfl (by show ¬ (leavesS [g0]).2.1<=49;decide) (by show hasR (leavesS [g0]).1 (needS 9)=true;decide) (by show ¬ (needS 9=0\/needS 9=8/\(0:Int)≠0);decide) (fun T=>by
  have:addR [] 1=([1],0):=by simp [addR,unionS,mrg,mayR,serS,asc,ascB]
  show oRev w3 { qRev with tok:=T } 49=_
  unfold oRev;rw [show w3.tens.findIdx? (fun x:Ten=>x.num == ({ qRev with tok:=T }:Req).ten)=some 1 from rfl];dsimp only;rw [show w3.tens[1]? = some ⟨1,1,⟨4,100,[⟨kA,k1⟩]⟩,[]⟩ from rfl];dsimp only;have key:∀ (l:List Int) (n:Int),l=[]->n=1->addR l n=([1],0):=fun l n h1 h2=>by rw [h1,h2];exact this
  rw [if_pos (by rw [key _ _ rfl rfl])]
  show (rp0,lnkS { w3 with tens:=w3.tens.set 1 ⟨1,1,⟨4,100,[⟨kA,k1⟩]⟩,(addR [] 1).1⟩ } { qRev with tok:=T } 49 1 0 0)=_
  rw [this]
  kernel_rfl)
theorem row_i:toldS root w4 (one root) 49 qGet=(w4,failR 93):=
 told_no (n:=1) (x:=⟨1,1,⟨4,100,[⟨kA,k1⟩]⟩,[1]⟩) (may_w lkC).2.2.2.2 (one_ok root) (by decide) (fun _=>rfl) (by decide) i64s.2.2.2.1 rfl rfl (.inl ⟨rfl,rfl⟩)
theorem lkC_len:lkC.length=3:=by simp [lkC,lkB,lkA,addL]
theorem lkC_2:(lkC.getD 2 lk0).n=3/\(lkC.getD 2 lk0).op=9:=by
 simp [lkC,addL]
theorem row_j:toldS root w4 (adm root) 49 (qAud 3)=(w4,{ rp0 with lnk:=lkC.getD 2 lk0 }):=
 told_row (n:=0) (x:=tn0) (s':=w4) (r:={ rp0 with lnk:=lkC.getD 2 lk0 }) (may_w lkC).2.2.2.2 (adm_ok root) (by decide) (fun _=>rfl) (by decide) i64s.2.2.2.2.2.2.2.1 rfl rfl rfl (by show ¬ (leavesS [g0]).2.1<=49;decide) (by show hasR (leavesS [g0]).1 (needS 10)=true;decide) (by show ¬ (needS 10=0\/needS 10=8/\(0:Int)≠0);decide) (fun T=>by
  show (oAudit w4 { qAud 3 with tok:=T },w4)=_
  unfold oAudit atL;rw [show w4.links=lkC from rfl,lkC_len,if_neg (by show ¬ ((3:Int) < 1\/((3:Nat):Int) < 3);decide)];rfl)
theorem row_k:toldS root w4 (adm root) 49 (qAud 4)=(w4,failR 130):=
 told_row (n:=0) (x:=tn0) (s':=w4) (r:={ rp0 with err:=130,lnk:=lk0 }) (may_w lkC).2.2.2.2 (adm_ok root) (by decide) (fun _=>rfl) (by decide) i64s.2.2.2.2.2.2.2.2 rfl rfl rfl (by show ¬ (leavesS [g0]).2.1<=49;decide) (by show hasR (leavesS [g0]).1 (needS 10)=true;decide) (by show ¬ (needS 10=0\/needS 10=8/\(0:Int)≠0);decide) (fun T=>by
  show (oAudit w4 { qAud 4 with tok:=T },w4)=_
  unfold oAudit atL;rw [show w4.links=lkC from rfl,lkC_len,if_pos (by show ((4:Int) < 1\/((3:Nat):Int) < 4);decide)])
end
theorem admin_ac (root:List UInt8) (hrt:root.length<=100000):AF 24 [bs none root] (.ag (eTok (adm root))):=by
 have h1:=skey_ac root hrt 0;have hkl:(keyT root 0).length<=1000000:=by unfold keyT;exact Nat.le_trans (Nat.le_of_eq (hmacS_len _ _)) (by omega)
 have h2:=mint_ac (keyT root 0) hkl 0 g0
 have e:mintS (keyT root 0) 0 g0=(adm root,0):=by
  unfold mintS adm;rw [if_neg (by unfold mayT lineS;decide)]
 rw [e] at h2;generalize adm root=A at *;generalize keyT root 0=key at *;refine AC.E func24 ntmps24 ?_;intros;iterate 2 refine CP.SL ?_
 repeat' (first|((first|refine wA1 ?_|(refine GA ?_ ?_<;>intro hg)|(refine GV ?_;intros;simp only [nz])|refine wA6 ?_)<;>try refine NQ ?_)|refine wT3 ?_|with_reducible intro Q' hQ'|(refine GC ?_ ?_<;>intro hc)|simp only [laq])
 exact RA0
