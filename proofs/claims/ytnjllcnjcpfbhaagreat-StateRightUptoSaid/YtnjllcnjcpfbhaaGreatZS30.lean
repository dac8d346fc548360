/- Parts. -/
import Derived.Test.YtnjllcnjcpfbhaaGreatZS27
import Derived.Test.YtnjllcnjcpfbhaaGreatZS28
namespace Go.Proofs.YtnjllcnjcpfbhaaGreat
set_option linter.unusedVariables false
set_option linter.unusedSimpArgs false
open Go.RowKit Go.Proofs.Tryz
set_option maxRecDepth 100000
set_option maxHeartbeats 8000000
theorem dprint9_ac (t:Tok) (ht:t.tag.length=32) (hl:t.line.length<=1000000):AF 42 [.ag (eTok t)] (bs (some tU) (tokP t)):=by
 have h1:=dmayT_ac t hl;unfold tokP
 cases hm:mayT t with
 | false=>
  rw [hm] at h1;rw [if_neg (by simp)];refine AC.E func42 ntmps42 ?_;intro X hρ hmks;iterate 2 refine CP.SL ?_
  repeat' (first|((first|refine wA1 ?_|(refine GA ?_ ?_<;>intro hg)|(refine GV ?_;intros;simp only [nz])|refine wA6 ?_|refine wD1 ?_)<;>try refine NQ ?_)|refine wT6 ?_|with_reducible intro Q' hQ'|(refine GC ?_ ?_<;>intro hc)|simp only [laq])
  exact RA0
 | true=>
  rw [hm] at h1;rw [if_pos rfl];obtain ⟨ten,l,tag⟩:=t;dsimp only at *
  have e0:nuL [ten,(l.length:Int)]=intS ten ++ intS (l.length:Int):=by
   show intS ten ++ (intS (l.length:Int) ++ [])=_
   rw [List.append_nil]
  rw [e0];have h2:=dnum_ac ten;have h3:True->_:=fun _=>(dnum_ac (l.length:Int)).ro (r2:=bs none (intS (l.length:Int))) (by simp only [AV.ro,ro_B])
  have i1:(intS ten).length=8:=putS_length _ 8;have i2:(intS (l.length:Int)).length=8:=putS_length _ 8;generalize intS ten=n1 at *;generalize intS (l.length:Int)=n2 at *;have k1:(n1.map eB).length + (n2.map eB).length<=1000000000:=by simp;omega
  have k2:n1.length + n2.length<=1000000000:=by omega
  have hn:(n1 ++ n2).length=16:=by rw [List.length_append];omega
  have htm:=tagC_map ht;simp only [tagC,List.map_cons,List.map_nil] at htm;refine AC.E func42 ntmps42 ?_;intro X hρ hmks
  repeat' (first|((first|refine wA1 ?_|(refine GA ?_ ?_<;>intro hg)|(refine GV ?_;intros;simp only [nz])|refine wA6 ?_)<;>try refine NQ ?_)|refine wT8 ?_|with_reducible intro Q' hQ'|(refine GC ?_ ?_<;>intro hc)|simp only [laq])
  iterate 2 refine CP.SL ?_
  first|refine cp_drwX fun Q' hQ'=>?_|refine cp_drawX ?_
  iterate 2 refine DS0 ?_
  refine DW.A 1 ?_;refine NQ ?_;clear h2;have h2:=h3 trivial;iterate 4 refine DS0 ?_
  refine DW.W0 ?_;refine wN33 ?_;iterate 1 refine DS0 ?_
  repeat' (first|((first|refine wA1 ?_|(refine GA ?_ ?_<;>intro hg)|(refine GV ?_;intros;simp only [nz])|refine wA6 ?_)<;>try refine NQ ?_)|refine wT8 ?_|with_reducible intro Q' hQ'|(refine GC ?_ ?_<;>intro hc)|simp only [laq])
  clear h2 h3;generalize n1 ++ n2=n12 at *;refine cp_loopS [3,4,16,17,18,19,20,21,22,23,24,25,26,27,28,29,30] (fun a:Nat=>l.length - a) (fun a=>a<=l.length) (fun a=>[(4,I a),(3,.hd 1 (a + 2))]) (fun a=>[(1,⟨a + 2,.r tU 1 ((n12 ++ (l.take a).flatMap grN).map eB)⟩),(2,⟨0,.x⟩)]) 0 (Nat.zero_le _) (by (simp only [List.take_zero,List.flatMap_nil,List.append_nil];exact Gh.W)) ?_;intro a ha;refine ST0 ?_
  by_cases hlt:a < l.length
  ·have q2:decide ((a:Int) < (l.length:Int))=true:=by simp;omega
   have q3:IntKind.i64.wrap ((a:Int) + 1)=((a + 1:Nat):Int):=wrap_i64 (by omega) (by omega);have hr1:(l.map eGr)[a]? = some (eGr l[a]):=by rw [List.getElem?_map,List.getElem?_eq_getElem hlt];rfl
   have h5:=(dgr_ac l[a]).ro (r2:=bs none (grN l[a])) (by simp only [AV.ro,ro_B]);have hgl:=grN_len l[a];have hml:=grN_flat_len (l.take a);rw [List.length_take] at hml
   have e5:(n12 ++ (l.take (a + 1)).flatMap grN).map eB=(n12 ++ (l.take a).flatMap grN).map eB ++ (grN l[a]).map eB:=by
    rw [List.take_succ_eq_append_getElem hlt,List.flatMap_append,List.flatMap_cons,List.flatMap_nil,List.append_nil,←List.append_assoc,List.map_append]
   have hlb:((n12 ++ (l.take a).flatMap grN).map eB).length + ((grN l[a]).map eB).length<=1000000000:=by rw [List.length_map,List.length_map,List.length_append];omega
   have hlb2:(n12 ++ (l.take a).flatMap grN).length + (grN l[a]).length<=1000000000:=by rw [List.length_append];omega
   generalize n12 ++ (l.take a).flatMap grN=A at *;generalize grN l[a]=n at *;generalize l[a]=x at *
   repeat' (first|((first|refine wA1 ?_|(refine GA ?_ ?_<;>intro hg)|(refine GV ?_;intros;simp only [nz])|refine wA6 ?_|refine wD1 ?_)<;>try refine wN4 ?_)|refine wT6 ?_|with_reducible intro Q' hQ'|(refine GC ?_ ?_<;>intro hc)|simp only [laq])
   refine ⟨a + 1,by omega,by omega,?_⟩;rw [e5];exact Gh.W
  ·obtain rfl:a=l.length:=by omega
   have q2:decide ((l.length:Int) < (l.length:Int))=false:=by simp
   have hml:=grN_flat_len l;rw [List.take_length];have hl1:((n12 ++ l.flatMap grN).map eB).length + 32<=1000000000:=by rw [List.length_map,List.length_append];omega
   have hl':(n12 ++ l.flatMap grN).length + 32<=1000000000:=by rw [List.length_append];omega
   generalize n12 ++ l.flatMap grN=A at *
   repeat' (first|((first|refine wA1 ?_|(refine GA ?_ ?_<;>intro hg)|(refine GV ?_;intros;simp only [nz])|refine wA21 ?_|refine wA6 ?_|refine wD4 ?_|((with_reducible apply DW.k_any);refine DW.known rfl ?_;(with_reducible first|apply DW.sx 2);(iterate 2 (focus (simp only [ft,nm,Nat.reduceAdd,Nat.reduceBEq,List.getElem?_cons_zero,List.getElem?_cons_succ];exact rfl)));(focus (intro X V;simp only [ft,nm,Nat.reduceAdd,Nat.reduceBEq];(try (refine AP.Y ?_;dsimp only));(first|refine AP.AW ?_|fail);(try refine NX ?_);refine AP.nil ?_;(first|refine ⟨trivial,rfl,?_⟩|refine ⟨rfl,rfl,?_⟩);(repeat' (first|exact Mg.nil|apply Mg.keep rfl|apply Mg.take rfl));done));(focus (refine Exists.intro (fun _=>0) ?_;apply Exists.intro;(repeat' (first|exact Mg.nil|apply Mg.keep rfl|apply Mg.take rfl));done));(iterate 2 (focus (exact rfl)))))<;>(try simp only [q2,htm,←List.map_append,nq,Nat.reduceBEq,Nat.reduceAdd,Nat.reduceSub]))|refine wT6 ?_|with_reducible intro Q' hQ'|(refine GC ?_ ?_<;>intro hc)|simp only [laq])
   exact RA0
theorem parT_fit (b:List UInt8):(parT b).1.tag.length=32/\(parT b).1.line.length<=4:=by
 unfold parT;split
 ·exact ⟨rfl,Nat.zero_le _⟩
 ·next h=>
  split
  ·exact ⟨rfl,Nat.zero_le _⟩
  ·next l hl=>
   have:=parL_len hl;split
   ·refine ⟨?_,?_⟩
    ·show (b.drop _).length=32
     rw [List.length_drop];simp only [not_or] at h;omega
    ·show l.length<=4
     simp only [not_or] at h;omega
   ·exact ⟨rfl,Nat.zero_le _⟩
theorem loadS_mid (A B:List UInt8) (v:Int):loadS (A ++ intS v ++ B) (A.length:Int) 8=((IntKind.u64.wrap v).toNat,true):=by
 have hl:(intS v).length=8:=putS_length _ 8
 have hn:¬ ((A.length:Int) < 0\/((A ++ intS v ++ B).length:Int) - (8:Nat) < (A.length:Int)):=by
  rw [List.length_append,List.length_append,hl];omega
 unfold loadS;rw [if_neg hn,Int.toNat_natCast,List.append_assoc,List.drop_left,List.take_left' hl,beN_intS]
theorem numT_mid {A B:List UInt8} {v:Int} {p:Int} (hp:p=(A.length:Int)) (h1:0<=v) (h2:v<=1099511627776):numT (A ++ intS v ++ B) p=(v,true):=by
 have hw:IntKind.u64.wrap v=v:=by simp [IntKind.wrap,IntKind.bits,IntKind.signed];omega
 subst hp;unfold numT;rw [loadS_mid,hw,Int.toNat_of_nonneg h1,wrap_i64 (by omega) (by omega)];simp [h2]
theorem grT_mid {A B:List UInt8} {g:Gr} {i:Nat} (hA:A.length=16 + 24 * i) (h1:0<=g.exp) (h2:g.exp<=1099511627776) (h3:0<=g.ser) (h4:g.ser<=1099511627776):grT (A ++ grN g ++ B) i=some g:=by
 have hr:=g.rts.toNat_lt;have l1:(intS (g.rts.toNat:Int)).length=8:=putS_length _ 8;have l2:(intS g.exp).length=8:=putS_length _ 8;have e0:grN g=intS (g.rts.toNat:Int) ++ (intS g.exp ++ (intS g.ser ++ [])):=rfl
 have e1:numT (A ++ grN g ++ B) (16 + 24 * i)=((g.rts.toNat:Int),true):=by
  have:=numT_mid (A:=A) (B:=intS g.exp ++ (intS g.ser ++ []) ++ B) (v:=(g.rts.toNat:Int)) (p:=16 + 24 * i) (by omega) (by omega) (by omega);rw [←this,e0];simp only [List.append_assoc]
 have e2:numT (A ++ grN g ++ B) (24 + 24 * i)=(g.exp,true):=by
  have:=numT_mid (A:=A ++ intS (g.rts.toNat:Int)) (B:=(intS g.ser ++ []) ++ B) (v:=g.exp) (p:=24 + 24 * i) (by rw [List.length_append,l1];omega) h1 h2;rw [←this,e0];simp only [List.append_assoc]
 have e3:numT (A ++ grN g ++ B) (32 + 24 * i)=(g.ser,true):=by
  have:=numT_mid (A:=A ++ intS (g.rts.toNat:Int) ++ intS g.exp) (B:=[] ++ B) (v:=g.ser) (p:=32 + 24 * i) (by rw [List.length_append,List.length_append,l1,l2];omega) h3 h4;rw [←this,e0];simp only [List.append_assoc]
 unfold grT;rw [e1,e2,e3,if_pos ⟨rfl,rfl,rfl,by dsimp only;omega⟩];dsimp only;rw [Int.toNat_natCast,UInt8.ofNat_toNat]
theorem grS_of {g:Gr} (h:grS g=true):0<=g.exp/\g.exp<=1099511627776/\0<=g.ser/\g.ser<=1099511627776:=by
 simp only [grS,Bool.and_eq_true,decide_eq_true_eq] at h;omega
theorem parL_mid {P Z:List UInt8} (hP:P.length=16) (l:List Gr) (h:∀ g∈l,grS g=true):∀ k,k<=l.length->parL (P ++ l.flatMap grN ++ Z) k=some (l.take k)
 | 0,_=>by rw [List.take_zero];rfl
 | k + 1,hk=>by
  have hk':k < l.length:=by omega
  have e:P ++ l.flatMap grN ++ Z=(P ++ (l.take k).flatMap grN) ++ grN l[k] ++ ((l.drop (k + 1)).flatMap grN ++ Z):=by
   have e1:l.flatMap grN=(l.take k).flatMap grN ++ (grN l[k] ++ (l.drop (k + 1)).flatMap grN):=by
    rw [←List.flatMap_cons,←List.drop_eq_getElem_cons hk',←List.flatMap_append,List.take_append_drop]
   rw [e1];simp only [List.append_assoc]
  obtain ⟨b1,b2,b3,b4⟩:=grS_of (h _ (List.getElem_mem hk'));rw [parL,parL_mid hP l h k (by omega)];dsimp only;rw [e,grT_mid (by rw [List.length_append,hP,grN_flat_len,List.length_take];omega) b1 b2 b3 b4];dsimp only;rw [List.take_succ_eq_append_getElem hk']
theorem parT_print {t:Tok} (hm:mayT t=true) (ht:t.tag.length=32):parT (tokP t)=(t,0):=by
 have hm':=hm;simp only [mayT,lineS,Bool.and_eq_true,decide_eq_true_eq] at hm';obtain ⟨⟨h1,h2⟩,⟨h3,h4⟩,h5⟩:=hm';have hall:∀ g∈t.line,grS g=true:=List.all_eq_true.1 h5;have e:tokP t=nuL [t.ten,(t.line.length:Int)] ++ t.line.flatMap grN ++ t.tag:=if_pos hm;have l1:(intS t.ten).length=8:=putS_length _ 8;have l2:(intS (t.line.length:Int)).length=8:=putS_length _ 8;have eP:nuL [t.ten,(t.line.length:Int)]=intS t.ten ++ (intS (t.line.length:Int) ++ []):=rfl;have hP:(nuL [t.ten,(t.line.length:Int)]).length=16:=by rw [eP];simp only [List.length_append,l1,l2,List.length_nil]
 have hl:(tokP t).length=48 + 24 * t.line.length:=by rw [e,List.length_append,List.length_append,hP,grN_flat_len,ht];omega
 have n0:numT (tokP t) 0=(t.ten,true):=by
  have:=numT_mid (A:=[]) (B:=intS (t.line.length:Int) ++ [] ++ t.line.flatMap grN ++ t.tag) (v:=t.ten) (p:=0) rfl h1 (by omega);rw [←this,e,eP];simp only [List.append_assoc,List.nil_append]
 have n8:numT (tokP t) 8=((t.line.length:Int),true):=by
  have:=numT_mid (A:=intS t.ten) (B:=[] ++ t.line.flatMap grN ++ t.tag) (v:=(t.line.length:Int)) (p:=8) (by rw [l1];rfl) (by omega) (by omega);rw [←this,e,eP];simp only [List.append_assoc]
 have hd:(tokP t).drop (16 + 24 * t.line.length)=t.tag:=by
  rw [e];exact List.drop_left' (by rw [List.length_append,hP,grN_flat_len])
 have hp:parL (tokP t) t.line.length=some t.line:=by
  rw [e,parL_mid hP t.line hall _ (Nat.le_refl _),List.take_length]
 unfold parT;rw [n0,n8,if_neg (by dsimp only;rw [hl];simp;omega)];dsimp only;rw [Int.toNat_natCast,hp,hd];dsimp only;rw [if_pos hm]
