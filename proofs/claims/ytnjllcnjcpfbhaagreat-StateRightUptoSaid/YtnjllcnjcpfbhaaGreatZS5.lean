/- Parts. -/
import Derived.Test.YtnjllcnjcpfbhaaGreatZS4
import Derived.Test.YtnjllcnjcpfbhaaGreatRows
import Derived.OpenShut
import Derived.Carry
import Derived.ChangeArms
import Derived.ChangeSame
import Derived.ChangeMaps5
import Derived.JoinedCond
import Derived.Deep.Slices
namespace Go.Proofs.YtnjllcnjcpfbhaaGreat
set_option linter.unusedVariables false
set_option linter.unusedSimpArgs false
open Go.RowKit Go.Proofs.Tryz
set_option maxRecDepth 100000
set_option maxHeartbeats 8000000
theorem sp64_ac (x:Nat):AF 99 [.sc (.int .u64 (x:Int))] (bs none (putS x 8)):=by
 have h:=(put_ac x 8 (by omega)).ro (r2:=bs none (putS x 8)) (by simp [AV.ro,ro_B]);refine AC.E func99 ntmps99 ?_;intros
 repeat' (first|((first|refine wA2 ?_|refine aC1 h ?_)<;>try refine NX ?_)|refine wT2 ?_|with_reducible intro Q' hQ'|(refine GC ?_ ?_<;>intro hc)|simp only [laq])
 (refine RB1 ?_;(exact ⟨rfl,rfl⟩))
def nuL (l:List Int):List UInt8:=l.flatMap intS
theorem nuL_length (l:List Int):(nuL l).length=8 * l.length:=by
 induction l with
 | nil=>rfl
 | cons a t ih=>
  unfold nuL at ih ⊢;rw [List.flatMap_cons,List.length_append,intS,putS_length,ih,List.length_cons];omega
theorem anums_ac (l:List Int) (hl:l.length<=100000):AF 246 [.sl none 1 (l.map eI)] (bs (some tU) (nuL l)):=by
 refine AC.E func246 ntmps246 ?_;intros
 repeat' (first|((first|refine wA1 ?_|(refine GA ?_ ?_<;>intro hg)|(refine GV ?_;intros;simp only [nz])|refine wA6 ?_)<;>try refine NQ ?_)|refine wT3 ?_|with_reducible intro Q' hQ'|(refine GC ?_ ?_<;>intro hc)|simp only [laq])
 refine CP.gh (gh_nil (t:=3) (e:=tU) (k:=1) rfl) ?_;refine NX ?_;refine cp_loopS [3,5,8,9,10,11,12,13,14,15,16,17] (fun a:Nat=>l.length - a) (fun a=>a<=l.length) (fun a=>[(8,I a),(3,.hd 0 (a + 1))]) (fun a=>[(0,⟨a + 1,.r tU 1 ((nuL (l.take a)).map eB)⟩)]) 0 (Nat.zero_le _) (by exact Gh.W) ?_;intro k hk;refine ST0 ?_
 by_cases hlt:k < l.length
 ·have q1:decide ((k:Int) < (l.length:Int))=true:=by simp;omega
  have q2:IntKind.i64.wrap ((k:Int) + 1)=((k + 1:Nat):Int):=wrap_i64 (by omega) (by omega);have hr:(l.map eI)[k]? = some (eI l[k]):=by rw [List.getElem?_map,List.getElem?_eq_getElem hlt];rfl
  have h:=sp64_ac (IntKind.u64.wrap l[k]).toNat;rw [←u64_nn] at h;have e1:nuL (l.take (k + 1))=nuL (l.take k) ++ putS (IntKind.u64.wrap l[k]).toNat 8:=by unfold nuL;rw [List.take_succ_eq_append_getElem hlt,List.flatMap_append,List.flatMap_cons,List.flatMap_nil,List.append_nil];rfl
  have hlb:(nuL (l.take k)).length + (putS (IntKind.u64.wrap l[k]).toNat 8).length<=1000000000:=by rw [nuL_length,List.length_take,putS_length];omega
  have hlb1:((nuL (l.take k)).map eB).length + ((putS (IntKind.u64.wrap l[k]).toNat 8).map eB).length<=1000000000:=by rw [List.length_map,List.length_map];exact hlb
  have e2:(nuL (l.take (k + 1))).map eB=(nuL (l.take k)).map eB ++ (putS (IntKind.u64.wrap l[k]).toNat 8).map eB:=by rw [e1,List.map_append]
  clear e1;generalize nuL (l.take k)=A at *;generalize putS (IntKind.u64.wrap l[k]).toNat 8=P8 at *;generalize l[k]=x at *
  repeat' (first|((first|refine wA1 ?_|(refine GA ?_ ?_<;>intro hg)|(refine GV ?_;intros;simp only [nz])|refine wA6 ?_)<;>try refine wN1 ?_)|refine wT3 ?_|with_reducible intro Q' hQ'|(refine GC ?_ ?_<;>intro hc)|simp only [laq])
  refine ⟨k + 1,by omega,by omega,?_⟩;rw [e2];exact Gh.W
 ·obtain rfl:k=l.length:=by omega
  have q1:decide ((l.length:Int) < (l.length:Int))=false:=by simp
  rw [List.take_length]
  repeat' (first|((first|refine wA1 ?_|(refine GA ?_ ?_<;>intro hg)|(refine GV ?_;intros;simp only [nz])|refine wA6 ?_)<;>try refine wN0 ?_)|refine wT3 ?_|with_reducible intro Q' hQ'|(refine GC ?_ ?_<;>intro hc)|simp only [laq])
  exact RA0
theorem tnums_ac (l:List Int) (hl:l.length<=100000):AF 97 [.sl none 1 (l.map eI)] (bs (some tU) (nuL l)):=by
 refine AC.E func97 ntmps97 ?_;intros
 repeat' (first|((first|refine wA1 ?_|(refine GA ?_ ?_<;>intro hg)|(refine GV ?_;intros;simp only [nz])|refine wA6 ?_)<;>try refine NQ ?_)|refine wT3 ?_|with_reducible intro Q' hQ'|(refine GC ?_ ?_<;>intro hc)|simp only [laq])
 refine CP.gh (gh_nil (t:=3) (e:=tU) (k:=1) rfl) ?_;refine NX ?_;refine cp_loopS [3,5,8,9,10,11,12,13,14,15,16,17] (fun a:Nat=>l.length - a) (fun a=>a<=l.length) (fun a=>[(8,I a),(3,.hd 0 (a + 1))]) (fun a=>[(0,⟨a + 1,.r tU 1 ((nuL (l.take a)).map eB)⟩)]) 0 (Nat.zero_le _) (by exact Gh.W) ?_;intro k hk;refine ST0 ?_
 by_cases hlt:k < l.length
 ·have q1:decide ((k:Int) < (l.length:Int))=true:=by simp;omega
  have q2:IntKind.i64.wrap ((k:Int) + 1)=((k + 1:Nat):Int):=wrap_i64 (by omega) (by omega);have hr:(l.map eI)[k]? = some (eI l[k]):=by rw [List.getElem?_map,List.getElem?_eq_getElem hlt];rfl
  have h:=sp64_ac (IntKind.u64.wrap l[k]).toNat;rw [←u64_nn] at h;have e1:nuL (l.take (k + 1))=nuL (l.take k) ++ putS (IntKind.u64.wrap l[k]).toNat 8:=by unfold nuL;rw [List.take_succ_eq_append_getElem hlt,List.flatMap_append,List.flatMap_cons,List.flatMap_nil,List.append_nil];rfl
  have hlb:(nuL (l.take k)).length + (putS (IntKind.u64.wrap l[k]).toNat 8).length<=1000000000:=by rw [nuL_length,List.length_take,putS_length];omega
  have hlb1:((nuL (l.take k)).map eB).length + ((putS (IntKind.u64.wrap l[k]).toNat 8).map eB).length<=1000000000:=by rw [List.length_map,List.length_map];exact hlb
  have e2:(nuL (l.take (k + 1))).map eB=(nuL (l.take k)).map eB ++ (putS (IntKind.u64.wrap l[k]).toNat 8).map eB:=by rw [e1,List.map_append]
  clear e1;generalize nuL (l.take k)=A at *;generalize putS (IntKind.u64.wrap l[k]).toNat 8=P8 at *;generalize l[k]=x at *
  repeat' (first|((first|refine wA1 ?_|(refine GA ?_ ?_<;>intro hg)|(refine GV ?_;intros;simp only [nz])|refine wA6 ?_)<;>try refine wN1 ?_)|refine wT3 ?_|with_reducible intro Q' hQ'|(refine GC ?_ ?_<;>intro hc)|simp only [laq])
  refine ⟨k + 1,by omega,by omega,?_⟩;rw [e2];exact Gh.W
 ·obtain rfl:k=l.length:=by omega
  have q1:decide ((l.length:Int) < (l.length:Int))=false:=by simp
  rw [List.take_length]
  repeat' (first|((first|refine wA1 ?_|(refine GA ?_ ?_<;>intro hg)|(refine GV ?_;intros;simp only [nz])|refine wA6 ?_)<;>try refine wN0 ?_)|refine wT3 ?_|with_reducible intro Q' hQ'|(refine GC ?_ ?_<;>intro hc)|simp only [laq])
  exact RA0
theorem dloadAt_ac (b:List UInt8) (p n:Nat) (hn:n<=8) (hb:p + n<=b.length) (hl:b.length<=100000000):AF 210 [bs none b,I p,I n] (.tu [.sc (.int .u64 (beN ((b.drop p).take n):Int)),B true]):=by
 have hw0:IntKind.i64.wrap ((b.length:Int) - p)=((b.length - p:Nat):Int):=by rw [wrap_i64 (by omega) (by omega)];omega
 have hw1:IntKind.i64.wrap ((p:Int) + (n:Int))=((p + n:Nat):Int):=by rw [wrap_i64 (by omega) (by omega)];omega
 have d0:decide ((p:Int) < 0)=false:=by simp
 have d1:decide ((b.length:Int) < (p:Int))=false:=by simp;omega
 have d2:decide (((b.length - p:Nat):Int) < (n:Int))=false:=by simp;omega
 refine AC.E func210 ntmps210 ?_;intros
 repeat' (first|((first|refine wA9 ?_|((with_reducible apply AP.k_any);first|refine AP.E ?_)|(refine GA ?_ ?_<;>intro hg)|refine wA6 ?_)<;>(try simp only [hw0,hw1,d0,d1,d2,nx,q4,rn,fq,Nat.mul_one,Bool.and_true,Bool.and_false,Nat.reduceBEq,Nat.reduceAdd,Nat.reduceSub,BEq.rfl]))|refine wT2 ?_|with_reducible intro Q' hQ'|(refine GC ?_ ?_<;>intro hc)|simp only [laq])
 refine cp_loopS [8,9,27,28,29,30,31,32,33,34,35,36,37,38,39,40,41] (fun k:Nat=>n - k) (fun k=>k<=n) (fun k=>[(9,I ((p + k:Nat):Int)),(8,.sc (.int .u64 (beN ((b.drop p).take k):Int)))]) (fun _=>[]) 0 (Nat.zero_le _) (by exact Gh.W) ?_;intro k hk;refine ST0 ?_
 by_cases hlt:k < n
 ·have hw:IntKind.i64.wrap (((p + k:Nat):Int) + 1)=((p + (k + 1):Nat):Int):=wrap_i64 (by omega) (by omega);have hb1:=beN_lt ((b.drop p).take k);have hb2:256 ^ ((b.drop p).take k).length<=256 ^ 7:=Nat.pow_le_pow_right (by omega) (by simp;omega);have hkb:k < (b.drop p).length:=by simp;omega
  have hsn:beN ((b.drop p).take (k + 1))=256 * beN ((b.drop p).take k) + (b.drop p)[k].toNat:=by rw [List.take_succ_eq_append_getElem hkb,beN_snoc]
  have hcl:=(b.drop p)[k].toNat_lt
  have hat:(b.map eB)[p + k]? = some (eB (b.drop p)[k]):=by
   rw [List.getElem?_map,List.getElem_drop,List.getElem?_eq_getElem (by omega)];rfl
  have hm:IntKind.u64.wrap (IntKind.u64.wrap (256 * (beN ((b.drop p).take k):Int)) + IntKind.u64.wrap ((b.drop p)[k].toNat:Int))=((beN ((b.drop p).take (k + 1)):Nat):Int):=by
   rw [hsn];generalize beN ((b.drop p).take k)=x at hb1 hb2;generalize (b.drop p)[k].toNat=y at hcl;simp [IntKind.wrap,IntKind.bits,IntKind.signed];omega
  have d3:decide (((p + k:Nat):Int) < ((p + n:Nat):Int))=true:=by simp;omega
  generalize (b.drop p)[k]=c at *
  repeat' (first|((first|refine wA9 ?_|((with_reducible apply AP.k_any);first|refine AP.E ?_)|(refine GA ?_ ?_<;>intro hg)|refine wA6 ?_)<;>(try simp only [hw0,hw1,d3,nx,q4,rn,fq,Nat.mul_one,Bool.and_true,Bool.and_false,Nat.reduceBEq,Nat.reduceAdd,Nat.reduceSub,BEq.rfl]))|refine wT2 ?_|with_reducible intro Q' hQ'|(refine GC ?_ ?_<;>intro hc)|simp only [laq])
  simp only [hw,hm];exact ⟨k + 1,by omega,by omega,by exact Gh.W⟩
 ·obtain rfl:k=n:=by omega
  have d3:decide (((p + k:Nat):Int) < ((p + k:Nat):Int))=false:=by simp
  repeat' (first|((first|refine wA9 ?_|((with_reducible apply AP.k_any);first|refine AP.E ?_)|(refine GA ?_ ?_<;>intro hg)|refine wA6 ?_)<;>(try simp only [hw0,hw1,d3,nx,q4,rn,fq,Nat.mul_one,Bool.and_true,Bool.and_false,Nat.reduceBEq,Nat.reduceAdd,Nat.reduceSub,BEq.rfl]))|refine wT2 ?_|with_reducible intro Q' hQ'|(refine GC ?_ ?_<;>intro hc)|simp only [laq])
  exact RA0
abbrev tQ:TypeId:=146
abbrev eQ (x:UInt32):List AV:=[Q4 x]
theorem ro_Q (l:List UInt32):roE (l.map eQ)=l.map eQ:=by rw [roE_map];rfl
theorem w32_shrN (x:UInt32) (a:Nat):Int.fdiv (x.toNat:Int) (2 ^ (min a IntKind.u32.bits))=((shrI x (a:Int)).toNat:Int):=w32_shr x a
theorem wD2 {G G':Prop} (K:G') (h:G'->G:=by (intro kz;(with_reducible apply DW.k_any);first|exact DW.R kz|exact DW.R' kz|exact DW.W kz|exact DW.W' kz|exact DW.RA kz|exact DW.A 0 kz|exact DW.A 1 kz|exact DW.A 2 kz|exact DW.RX kz|exact DW.WX kz|exact DW.WX' kz|exact DW.R kz|exact DW.R' kz|exact DW.W kz|exact DW.W' kz)):G:=h K
theorem wT5 {G G':Prop} (K:G') (h:G'->G:=by (intro kz;first|((with_reducible apply AP.k_nil);first|exact AP.nil (hQ' _ kz)|exact AP.nil kz)|((with_reducible apply CP.k_drw);exact cp_drwX kz)|((with_reducible apply CP.k_drw1);exact cp_drawX kz)|((with_reducible apply DW.k_nil);refine DW.nl ?_;first|exact hQ' _ kz|exact kz)|((with_reducible apply CP.k_reg);exact cp_regG kz)|exact CP.W kz)):G:=h K
theorem dturns_ac (x:UInt32) (a b c:Nat) (ha:1<=a/\a<=31) (hb:1<=b/\b<=31) (hc:1<=c/\c<=31):AF 187 [Q4 x,I a,I b,I c] (Q4 (tnS x a b c)):=by
 have wa:IntKind.i64.wrap (32 - (a:Int))=32 - (a:Int):=wrap_i64 (by omega) (by omega);have wb:IntKind.i64.wrap (32 - (b:Int))=32 - (b:Int):=wrap_i64 (by omega) (by omega);have wc:IntKind.i64.wrap (32 - (c:Int))=32 - (c:Int):=wrap_i64 (by omega) (by omega);refine AC.E func187 ntmps187 ?_;intros
 repeat' (first|((first|refine wA8 ?_|refine wA6 ?_|refine wD2 ?_)<;>(try simp only [wa,wb,wc,w32_shrN,nx,q4,rn,fq,Nat.mul_one,Bool.and_true,Bool.and_false,Nat.reduceBEq,Nat.reduceAdd,Nat.reduceSub,BEq.rfl]))|refine wT5 ?_|with_reducible intro Q' hQ'|(refine GC ?_ ?_<;>intro hc)|simp only [laq])
 exact RA0
theorem dconstants_ac:AF 184 [] (.sl (some tQ) 1 (K32.map eQ)):=by
 refine AC.E func184 ntmps184 ?_;intros;refine CP.gh gh_slot ?_;refine NX ?_
 repeat' (first|((first|refine wA8 ?_|refine wA6 ?_)<;>(try simp only [nx,q4,rn,fq,Nat.mul_one,Bool.and_true,Bool.and_false,Nat.reduceBEq,Nat.reduceAdd,Nat.reduceSub,BEq.rfl]))|refine wT2 ?_|with_reducible intro Q' hQ'|(refine GC ?_ ?_<;>intro hc)|simp only [laq])
 exact RA0
theorem be4_at (b:List UInt8) (p:Nat) (h:p + 4<=b.length):be4 b (p:Int)=UInt32.ofNat (beN ((b.drop p).take 4)):=by
 have:¬ ((p:Int) < 0\/(b.length:Int) - (4:Nat) < p):=by omega
 rw [be4,loadS,if_neg this];rfl
theorem wQ_at (b:List UInt8) {n i:Nat} (h:i < n):((wS b n).map eQ)[i]? = some (eQ ((wS b n).getD i 0)):=by
 have:=wS_len b n;rw [List.getElem?_map,List.getD_eq_getElem?_getD,List.getElem?_eq_getElem (by omega)];rfl
theorem wQ_len (b:List UInt8) (n:Nat):((wS b n).map eQ).length=n:=by simp [wS_len]
theorem wQ_snoc (b:List UInt8) (n:Nat):(wS b n).map eQ ++ [[Q4 (wX b (wS b n) n)]]=(wS b (n + 1)).map eQ:=by simp [wS]
theorem sm_17 (x:UInt32):(shrI x 17 ||| shlI x 15) ^^^ (shrI x 19 ||| shlI x 13) ^^^ shrI x 10=smS x 17 19 10:=rfl
theorem sm_7 (x:UInt32):(shrI x 7 ||| shlI x 25) ^^^ (shrI x 18 ||| shlI x 14) ^^^ shrI x 3=smS x 7 18 3:=rfl
theorem schedule_ac (b:List UInt8) (hb:b.length=64):AF 186 [bs none b] (.sl (some tQ) 1 ((wS b 64).map eQ)):=by
 refine AC.E func186 ntmps186 ?_;intros
 repeat' (first|((first|refine wA8 ?_|((with_reducible apply AP.k_any);first|refine AP.E ?_)|refine wA6 ?_|refine wD2 ?_)<;>(try simp only [nx,q4,rn,fq,Nat.mul_one,Bool.and_true,Bool.and_false,Nat.reduceBEq,Nat.reduceAdd,Nat.reduceSub,BEq.rfl]))|refine wT5 ?_|with_reducible intro Q' hQ'|(refine GC ?_ ?_<;>intro hc)|simp only [laq])
 refine CP.gh (gh_nil (t:=3) (e:=tQ) (k:=1) rfl) ?_;refine NX ?_;refine CP.gh gh_slot ?_;refine NX ?_;refine cp_loopS [3,4,5,6,12,13,14,15,16,17,18,19,20,21,22,23,24,25,26,27] (fun a:Nat×Nat×Nat=>16 - a.1) (fun a=>a.1<=16) (fun a=>[(4,I a.1),(3,.hd 0 a.2.1)]) (fun a=>[(0,⟨a.2.1,.r tQ 1 ((wS b a.1).map eQ)⟩),(1,⟨a.2.2,.x⟩)]) (0,1,0) (Nat.zero_le _) (by exact Gh.W) ?_;rintro ⟨i,u,v⟩ hi;refine ST0 ?_;dsimp only at hi
 by_cases hlt:i < 16
 ·have hw:IntKind.i64.wrap ((i:Int) + 1)=((i + 1:Nat):Int):=wrap_i64 (by omega) (by omega);have hw4:IntKind.i64.wrap (4 * (i:Int))=((4 * i:Nat):Int):=wrap_i64 (by omega) (by omega);have d16:decide ((i:Int) < 16)=true:=by simp;omega
  have hlen:=wQ_len b i
  have hx:wX b (wS b i) i=UInt32.ofNat (beN ((b.drop (4 * i)).take 4)):=by
   rw [wX,if_pos hlt,←be4_at b (4 * i) (by omega)];congr 1
  have hsn:=wQ_snoc b i;rw [hx] at hsn;have h1:=dloadAt_ac b (4 * i) 4 (by omega) (by omega) (by omega);generalize (wS b i).map eQ=W at *;generalize beN ((b.drop (4 * i)).take 4)=y at *;have hlen2:W.length + 1<=1000000000:=by omega
  repeat' (first|((first|refine wA8 ?_|((with_reducible apply AP.k_any);first|refine AP.E ?_)|refine wA6 ?_|refine wD2 ?_)<;>(try simp only [hw4,d16,w32_of,nx,q4,rn,fq,Nat.mul_one,Bool.and_true,Bool.and_false,Nat.reduceBEq,Nat.reduceAdd,Nat.reduceSub,BEq.rfl]))|refine wT5 ?_|with_reducible intro Q' hQ'|(refine GC ?_ ?_<;>intro hc)|simp only [laq])
  simp only [hw];refine ⟨(i + 1,u + 1,v + 1),by (dsimp only;omega),by (dsimp only;omega),?_⟩;dsimp only;rw [←hsn];exact Gh.W
 ·obtain rfl:i=16:=by omega
  have d16:decide (((16:Nat):Int) < 16)=false:=by simp
  repeat' (first|((first|refine wA8 ?_|((with_reducible apply AP.k_any);first|refine AP.E ?_)|refine wA6 ?_|refine wD2 ?_)<;>(try simp only [d16,nx,q4,rn,fq,Nat.mul_one,Bool.and_true,Bool.and_false,Nat.reduceBEq,Nat.reduceAdd,Nat.reduceSub,BEq.rfl]))|refine wT5 ?_|with_reducible intro Q' hQ'|(refine GC ?_ ?_<;>intro hc)|simp only [laq])
  refine cp_loopS [3,7,8,9,10,11,28,29,30,31,32,33,34,35,36,37,38,39,40,41,42,43,44,45,46,47,48,49,50,51,52,53,54,55,56,57,58,59,60,61,62,63,64,65,66,67,68,69,70,71,72,73,74,75,76,77,78,79,80,81,82,83,84,85,86,87] (fun a:Nat×Nat×Nat=>64 - a.1) (fun a=>16<=a.1/\a.1<=64) (fun a=>[(7,I a.1),(3,.hd 0 a.2.1)]) (fun a=>[(0,⟨a.2.1,.r tQ 1 ((wS b a.1).map eQ)⟩),(1,⟨a.2.2,.x⟩)]) (16,u,v) ⟨Nat.le_refl _,by omega⟩ (by exact Gh.W) ?_;rintro ⟨i,u,v⟩ ⟨hi1,hi⟩;refine ST0 ?_;dsimp only at hi hi1
  by_cases hlt:i < 64
  ·have hw:IntKind.i64.wrap ((i:Int) + 1)=((i + 1:Nat):Int):=wrap_i64 (by omega) (by omega);have d64:decide ((i:Int) < 64)=true:=by simp;omega
   have hx:wX b (wS b i) i=smS ((wS b i).getD (i - 2) 0) 17 19 10 + (wS b i).getD (i - 7) 0 + smS ((wS b i).getD (i - 15) 0) 7 18 3 + (wS b i).getD (i - 16) 0:=if_neg (by omega);have w2:IntKind.i64.wrap ((i:Int) - 2)=((i - 2:Nat):Int):=by rw [wrap_i64 (by omega) (by omega)];omega
   have w7:IntKind.i64.wrap ((i:Int) - 7)=((i - 7:Nat):Int):=by rw [wrap_i64 (by omega) (by omega)];omega
   have w15:IntKind.i64.wrap ((i:Int) - 15)=((i - 15:Nat):Int):=by rw [wrap_i64 (by omega) (by omega)];omega
   have w16:IntKind.i64.wrap ((i:Int) - 16)=((i - 16:Nat):Int):=by rw [wrap_i64 (by omega) (by omega)];omega
   have g2:=wQ_at b (n:=i) (i:=i - 2) (by omega);have g7:=wQ_at b (n:=i) (i:=i - 7) (by omega);have g15:=wQ_at b (n:=i) (i:=i - 15) (by omega);have g16:=wQ_at b (n:=i) (i:=i - 16) (by omega);have hlen:=wQ_len b i;have hsn:=wQ_snoc b i;rw [hx] at hsn;generalize (wS b i).getD (i - 2) 0=x2 at *;generalize (wS b i).getD (i - 7) 0=x7 at *;generalize (wS b i).getD (i - 15) 0=x15 at *;generalize (wS b i).getD (i - 16) 0=x16 at *;generalize (wS b i).map eQ=W at *;have hlen2:W.length + 1<=1000000000:=by omega
   repeat' (first|((first|refine wA8 ?_|((with_reducible apply AP.k_any);first|refine AP.E ?_)|refine wA6 ?_|refine wD2 ?_)<;>(try simp only [w2,w7,w15,w16,d64,w32_shrN,sm_17,sm_7,nx,q4,rn,fq,Nat.mul_one,Bool.and_true,Bool.and_false,Nat.reduceBEq,Nat.reduceAdd,Nat.reduceSub,BEq.rfl]))|refine wT5 ?_|with_reducible intro Q' hQ'|(refine GC ?_ ?_<;>intro hc)|simp only [laq])
   simp only [hw];refine ⟨(i + 1,u + 1,v + 1),by (dsimp only;omega),by (dsimp only;omega),?_⟩;dsimp only;rw [←hsn];exact Gh.W
  ·obtain rfl:i=64:=by omega
   have d64:decide (((64:Nat):Int) < 64)=false:=by simp
   generalize (wS b 64).map eQ=W at *
   repeat' (first|((first|refine wA8 ?_|((with_reducible apply AP.k_any);first|refine AP.E ?_)|refine wA6 ?_|refine wD2 ?_)<;>(try simp only [d64,nx,q4,rn,fq,Nat.mul_one,Bool.and_true,Bool.and_false,Nat.reduceBEq,Nat.reduceAdd,Nat.reduceSub,BEq.rfl]))|refine wT5 ?_|with_reducible intro Q' hQ'|(refine GC ?_ ?_<;>intro hc)|simp only [laq])
   (refine RB1 ?_;(exact ⟨rfl,rfl⟩))
def nzS (n:Nat):Nat:=(119 - n % 64) % 64
def wholeS (b:List UInt8):List UInt8:=b ++ [0x80] ++ List.replicate (nzS b.length) 0 ++ putS (8 * b.length) 8
theorem wA10 {G G':Prop} (K:G') (h:G'->G:=by (intro kz;(with_reducible apply AP.k_any);first|exact AP.A kz|exact AP.AB 0 kz|exact AP.AB 1 kz|exact AP.AL kz|exact AP.LB kz|exact AP.TB kz|exact AP.IX kz|exact AP.SF kz|exact AP.SV kz|exact AP.CV kz|exact AP.CO kz|exact AP.FV kz)):G:=h K
theorem whole_ac (b:List UInt8) (hb:b.length<=10000000):AF 185 [bs none b] (bs none (wholeS b)):=by
 have hwu:IntKind.u64.wrap (b.length:Int)=(b.length:Int):=wrap_u64 (by omega) (by omega);have hwu8:IntKind.u64.wrap (8 * (b.length:Int))=((8 * b.length:Nat):Int):=by rw [wrap_u64 (by omega) (by omega)];omega
 have hnzS:nzS b.length < 64:=Nat.mod_lt _ (by omega);have h1:=copy_ac b (by omega);have h2:=(rput_ac (8 * b.length) 8 (by omega) (by omega)).ro (r2:=bs none (putS (8 * b.length) 8)) (by simp only [AV.ro,ro_B]);have h3:=(cat_ac (b ++ [0x80] ++ List.replicate (nzS b.length) 0) (putS (8 * b.length) 8) (by simp;omega) (by simp [putS_length])).ro (r2:=bs none (wholeS b)) (by simp only [AV.ro,ro_B];rfl);refine AC.E func185 ntmps185 ?_;intros;refine CP.gh gh_slot ?_;refine NX ?_
 have hl0:(b.map eB).length + 1<=1000000000:=by simp;omega
 repeat' (first|((first|refine wA2 ?_|(refine GV ?_;intros;simp only [nz])|refine wA10 ?_|refine wA6 ?_)<;>(try simp only [nx,q4,rn,fq,Nat.mul_one,Bool.and_true,Bool.and_false,Nat.reduceBEq,Nat.reduceAdd,Nat.reduceSub,BEq.rfl]))|refine wT2 ?_|with_reducible intro Q' hQ'|(refine GC ?_ ?_<;>intro hc)|simp only [laq])
 refine cp_loopS [3,9,10,11,12,13,14,15] (fun a:Nat×Nat×Nat=>nzS b.length - a.1) (fun a=>a.1<=nzS b.length) (fun a=>[(3,.hd 0 a.2.1)]) (fun a=>[(0,⟨a.2.1,.r tU 1 ((b ++ [0x80] ++ List.replicate a.1 0).map eB)⟩),(1,⟨a.2.2,.x⟩)]) (0,2,1) (Nat.zero_le _) (by (simp only [List.replicate_zero,List.append_nil,List.map_append];exact Gh.W)) ?_;rintro ⟨k,u,v⟩ hk;refine ST0 ?_;dsimp only at hk;have hln:(b ++ [0x80] ++ List.replicate k 0).length=b.length + 1 + k:=by simp;omega
 have hln2:((b ++ [0x80] ++ List.replicate k 0).map eB).length=b.length + 1 + k:=by simp;omega
 have hm:Int.tmod ((b.length + 1 + k:Nat):Int) 64=(((b.length + 1 + k) % 64:Nat):Int):=rfl
 by_cases hlt:k < nzS b.length
 ·have d1:((((b.length + 1 + k) % 64:Nat):Int) != 56)=true:=by
   unfold nzS at hlt;simp;omega
  have hsn:(b ++ [0x80] ++ List.replicate k 0).map eB ++ [[U 0]]=(b ++ [0x80] ++ List.replicate (k + 1) 0).map eB:=by
   rw [List.replicate_succ'];simp
  clear h1 h2 h3;generalize (b ++ [0x80] ++ List.replicate k 0).map eB=W at *;have hlen2:W.length + 1<=1000000000:=by omega
  repeat' (first|((first|refine wA2 ?_|(refine GV ?_;intros;simp only [nz])|refine wA10 ?_|refine wA6 ?_)<;>(try simp only [hln,hln2,hm,d1,nx,q4,rn,fq,Nat.mul_one,Bool.and_true,Bool.and_false,Nat.reduceBEq,Nat.reduceAdd,Nat.reduceSub,BEq.rfl]))|refine wT2 ?_|with_reducible intro Q' hQ'|(refine GC ?_ ?_<;>intro hc)|simp only [laq])
  refine ⟨(k + 1,u + 1,v + 1),by (dsimp only;omega),by (dsimp only;omega),?_⟩;dsimp only;rw [←hsn];exact Gh.W
 ·obtain rfl:k=nzS b.length:=by omega
  have d1:((((b.length + 1 + nzS b.length) % 64:Nat):Int) != 56)=false:=by
   unfold nzS;simp;omega
  generalize (b ++ [0x80] ++ List.replicate (nzS b.length) 0)=W at *
  repeat' (first|((first|refine wA2 ?_|(refine GV ?_;intros;simp only [nz])|refine wA10 ?_|refine wA6 ?_)<;>(try simp only [hln,hln2,hm,d1,hwu,hwu8,nx,q4,rn,fq,Nat.mul_one,Bool.and_true,Bool.and_false,Nat.reduceBEq,Nat.reduceAdd,Nat.reduceSub,BEq.rfl]))|refine wT2 ?_|with_reducible intro Q' hQ'|(refine GC ?_ ?_<;>intro hc)|simp only [laq])
  exact RA0
def xorS (a b:List UInt8):List UInt8:=List.zipWith (fun x y=>x ^^^ y) a b
theorem wrap_u8 {n:Nat} (h:n < 256):IntKind.u8.wrap (n:Int)=n:=by
 simp [IntKind.wrap,IntKind.bits,IntKind.signed];omega
theorem xor8 (x y:UInt8):IntKind.u8.wrap ((BitVec.toNat (BitVec.ofInt 8 (x.toNat:Int) ^^^ BitVec.ofInt 8 (y.toNat:Int)):Nat):Int)=((x ^^^ y).toNat:Int):=by
 have hx:BitVec.ofInt 8 (x.toNat:Int)=x.toBitVec:=by apply BitVec.eq_of_toNat_eq;simp
 have hy:BitVec.ofInt 8 (y.toNat:Int)=y.toBitVec:=by apply BitVec.eq_of_toNat_eq;simp
 rw [hx,hy];have h:(x.toBitVec ^^^ y.toBitVec).toNat=(x ^^^ y).toNat:=rfl;rw [h];exact wrap_u8 (x ^^^ y).toNat_lt
theorem or8b (x y:UInt8):IntKind.u8.wrap ((BitVec.toNat (BitVec.ofInt 8 (x.toNat:Int) ||| BitVec.ofInt 8 (y.toNat:Int)):Nat):Int)=((x ||| y).toNat:Int):=by
 have hx:BitVec.ofInt 8 (x.toNat:Int)=x.toBitVec:=by apply BitVec.eq_of_toNat_eq;simp
 have hy:BitVec.ofInt 8 (y.toNat:Int)=y.toBitVec:=by apply BitVec.eq_of_toNat_eq;simp
 rw [hx,hy];have h:(x.toBitVec ||| y.toBitVec).toNat=(x ||| y).toNat:=rfl;rw [h];exact wrap_u8 (x ||| y).toNat_lt
def xst (a b:List UInt8) (k:Nat):List UInt8:=(xorS a b).take k ++ a.drop k
theorem xst_len {a b:List UInt8} (h:a.length=b.length) (k:Nat):(xst a b k).length=a.length:=by simp [xst,xorS];omega
theorem xst_at {a b:List UInt8} (h:a.length=b.length) {k:Nat} (hk:k < a.length):(xst a b k)[k]? = some a[k]:=by
 unfold xst;rw [List.getElem?_append_right (by simp [xorS];omega)];simp [xorS];rw [show k + (k - min k (min a.length b.length))=k by omega];simp [hk]
theorem xst_set {a b:List UInt8} (h:a.length=b.length) {k:Nat} (hk:k < a.length):(xst a b k).set k (a[k] ^^^ b[k]'(by omega))=xst a b (k + 1):=by
 have hl:((xorS a b).take k).length=k:=by simp [xorS];omega
 unfold xst;rw [List.set_append_right _ _ (by omega),hl,Nat.sub_self,List.drop_eq_getElem_cons hk,List.set_cons_zero,List.take_succ_eq_append_getElem (by simp [xorS];omega)];simp [xorS]
theorem wD3 {G G':Prop} (K:G') (h:G'->G:=by (intro kz;(with_reducible apply DW.k_any);first|exact DW.R kz|exact DW.R' kz|exact DW.W kz|exact DW.W' kz)):G:=h K
theorem xor_ac (a b:List UInt8) (h:a.length=b.length) (hl:a.length<=100000000):AF 161 [bs none a,bs none b] (bs (some tU) (xorS a b)):=by
 have hc:=wcat_ac [a] (by simp) (by simp;omega);have hm:(if (b.length:Int) < (a.length:Int) then (b.length:Int) else (a.length:Int))=(a.length:Int):=by rw [if_neg (by omega)]
 refine AC.E func161 ntmps161 ?_;intros
 repeat' (first|((first|refine wA2 ?_|((with_reducible apply AP.k_any);first|refine AP.E ?_|refine AP.T ?_)|((with_reducible apply AP.k_any);simp only [hm,Int.toNat_natCast,List.take_length];refine ap_callX rfl rfl (fn:=74) rfl (hc) (by (repeat' (first|exact PasC.nil|apply PasC.nil|apply PasC.cons|apply PasV.leaf rfl|apply PasV.nl|apply PasV.bp rfl|apply PasV.vp rfl|apply PasV.pz|exact VsM.nil|apply VsM.cons rfl|apply PasV.lend rfl rfl rfl|apply PasV.lend rfl rfl (ro_B _)|apply PasV.lend rfl rfl (ro_M _)|apply PasV.lend rfl rfl (ro_E _ _)|apply PasV.lend rfl rfl (ro_I _)|apply PasV.lend rfl rfl (by (simp only [rn,List.map_cons,List.map_nil];first|done|rfl))|apply PasV.lend rfl rfl (by assumption)|apply PasV.lsb rfl rfl rfl rfl (by (first|assumption|exact rfl))|apply PasV.mv rfl|apply PasV.hk rfl|apply PasV.ag|apply PasV.fn|exact PasV.fs|apply PasV.any|exact rfl))) rfl rfl ?_)|((with_reducible apply AP.k_any);refine AP.gh (gh_fz (b:=0) (u:=1) rfl rfl (by (repeat' (first|exact FzC.nil|apply FzC.cons|exact FzV.hd|apply FzV.ag|exact FzV.same))) (by (repeat' (first|exact FzB.nil|apply FzB.c|apply FzB.same|exact FzC.nil|apply FzC.cons|exact FzV.hd|apply FzV.ag|exact FzV.same)))) ?_;first|simp only [roE,roC,AV.ro,ro_B,ro_M,ro_E]|simp only [roE,roC,AV.ro,ro_B]))<;>try refine NX ?_)|refine wT2 ?_|with_reducible intro Q' hQ'|(refine GC ?_ ?_<;>intro hc)|simp only [laq])
 simp only [List.flatten_cons,List.flatten_nil,List.append_nil];refine cp_loopS [6,18,19,20,21,22,23,24,25,26,27,28,29,30,31] (fun k:Nat=>a.length - k) (fun k=>k<=a.length) (fun k=>[(18,I k),(17,I a.length)]) (fun k=>[(0,⟨2,.r tU 1 ((xst a b k).map eB)⟩)]) 0 (Nat.zero_le _) (by exact Gh.W) ?_;rintro k hk;refine ST0 ?_;have hxl:=xst_len h k
 by_cases hlt:k < a.length
 ·have hw:IntKind.i64.wrap ((k:Int) + 1)=((k + 1:Nat):Int):=wrap_i64 (by omega) (by omega);have hkb:k < b.length:=by omega
  have hxa:(xst a b k)[k]=a[k]:=by have:=xst_at h hlt;rw [List.getElem?_eq_getElem (by omega)] at this;simpa using this
  have hset:=xst_set h hlt;have hx8:IntKind.u8.wrap (((BitVec.ofInt IntKind.u8.bits (a[k].toNat:Int)) ^^^ (BitVec.ofInt IntKind.u8.bits (b[k].toNat:Int))).toNat:Int)=((a[k] ^^^ b[k]).toNat:Int):=xor8 a[k] b[k]
  repeat' (first|((first|refine wA2 ?_|((with_reducible apply AP.k_any);first|refine AP.E ?_|refine AP.T ?_)|refine wD3 ?_)<;>try refine NX ?_)|refine wT5 ?_|with_reducible intro Q' hQ'|(refine GC ?_ ?_<;>intro hc)|simp only [laq])
  ·simp only [hw,hxa,hx8];rw [show ∀ y:UInt8,[AV.sc (.int .u8 (y.toNat:Int))]=eB y from fun _=>rfl,←List.map_set,hset];exact ⟨k + 1,by omega,by omega,by exact Gh.W⟩
  ·exfalso;simp at *;omega
 ·obtain rfl:k=a.length:=by omega
  have e1:xst a b a.length=xorS a b:=by unfold xst;rw [List.drop_length,List.append_nil,List.take_of_length_le (by simp [xorS];omega)]
  rw [e1] at hxl ⊢
  repeat' (first|((first|refine wA2 ?_|((with_reducible apply AP.k_any);first|refine AP.E ?_|refine AP.T ?_)|refine wD3 ?_)<;>try refine NX ?_)|refine wT5 ?_|with_reducible intro Q' hQ'|(refine GC ?_ ?_<;>intro hc)|simp only [laq])
  all_goals first
   | (exfalso;simp at *;done)
   | (exfalso;simp at *;omega)
   | (refine RB1 ?_;(exact ⟨rfl,rfl⟩))
def orS (l:List UInt8):UInt8:=l.foldl (fun x y=>x ||| y) 0
theorem orS_snoc (l:List UInt8) (x:UInt8):orS (l ++ [x])=orS l ||| x:=by simp [orS,List.foldl_append]
theorem or_zero {x y:UInt8}:x ||| y=0↔x=0/\y=0:=by
 constructor
 ·intro h;have h':=congrArg UInt8.toNat h;rw [UInt8.toNat_or] at h'
  have h1:x.toNat=0:=by
   have:=Nat.left_le_or (n:=x.toNat) (m:=y.toNat);simp at h';omega
  have h2:y.toNat=0:=by
   have:=Nat.right_le_or (n:=x.toNat) (m:=y.toNat);simp at h';omega
  exact ⟨UInt8.toNat_inj.1 (by simpa using h1),UInt8.toNat_inj.1 (by simpa using h2)⟩
 ·rintro ⟨rfl,rfl⟩;rfl
theorem fold_or:∀ {l:List UInt8} {x:UInt8},l.foldl (fun x y=>x ||| y) x=0↔x=0/\∀ y∈l,y=0
 | [],x=>by simp
 | y :: l,x=>by
  rw [List.foldl_cons,fold_or (l:=l),or_zero];simp [and_assoc]
theorem xor_zero {x y:UInt8}:x ^^^ y=0↔x=y:=by
 constructor
 ·intro h;have:x ^^^ y ^^^ y=0 ^^^ y:=by rw [h]
  simpa [UInt8.xor_assoc] using this
 ·rintro rfl;simp
theorem orS_xor:∀ {a b:List UInt8},a.length=b.length->(orS (xorS a b)=0↔a=b)
 | [],[],_=>by simp [orS,xorS]
 | [],_ :: _,h=>by simp at h
 | _ :: _,[],h=>by simp at h
 | x :: a,y :: b,h=>by
  have ih:=orS_xor (a:=a) (b:=b) (by simpa using h);unfold orS at ih ⊢;rw [fold_or] at ih;rw [xorS,List.zipWith_cons_cons,List.foldl_cons,fold_or,or_zero,xor_zero];simp only [true_and] at ih ⊢;rw [show List.zipWith (fun x y=>x ^^^ y) a b=xorS a b from rfl,ih];simp
theorem wsame_ac (a b:List UInt8) (hl:a.length<=100000000):AF 95 [bs none a,bs none b] (B (decide (a=b))):=by
 by_cases h:a.length=b.length
 ·have hx:=(xor_ac a b h hl).ro (r2:=bs none (xorS a b)) (by simp only [AV.ro,ro_B]);have hxl:(xorS a b).length=a.length:=by simp [xorS];omega
  refine AC.E func95 ntmps95 ?_;intros
  repeat' (first|((first|refine wA2 ?_|((with_reducible apply AP.k_any);first|refine AP.E ?_)|refine aC1 hx ?_)<;>try refine NX ?_)|refine wT2 ?_|with_reducible intro Q' hQ'|(refine GC ?_ ?_<;>intro hc)|simp only [laq])
  ·exfalso;simp at *;omega
  refine cp_loopS [5,7,17,18,19,20,21,22,23,24] (fun k:Nat=>a.length - k) (fun k=>k<=a.length) (fun k=>[(17,I k),(16,I a.length),(15,bs none (xorS a b)),(5,U (orS ((xorS a b).take k)))]) (fun k=>[]) 0 (Nat.zero_le _) (by (try rw [hxl]);exact Gh.W) ?_;rintro k hk;refine ST0 ?_
  by_cases hlt:k < a.length
  ·have hw:IntKind.i64.wrap ((k:Int) + 1)=((k + 1:Nat):Int):=wrap_i64 (by omega) (by omega);have hkx:k < (xorS a b).length:=by omega
   have ho:IntKind.u8.wrap (((BitVec.ofInt IntKind.u8.bits ((orS ((xorS a b).take k)).toNat:Int)) ||| (BitVec.ofInt IntKind.u8.bits ((xorS a b)[k].toNat:Int))).toNat:Int)=((orS ((xorS a b).take k) ||| (xorS a b)[k]).toNat:Int):=or8b _ _;have hs:orS ((xorS a b).take (k + 1))=orS ((xorS a b).take k) ||| (xorS a b)[k]:=by rw [List.take_succ_eq_append_getElem hkx,orS_snoc]
   repeat' (first|((first|refine wA2 ?_|((with_reducible apply AP.k_any);first|refine AP.E ?_))<;>try refine NX ?_)|refine wT2 ?_|with_reducible intro Q' hQ'|(refine GC ?_ ?_<;>intro hc)|simp only [laq])
   ·simp only [hw,ho];refine ⟨k + 1,by omega,by omega,?_⟩;rw [hs];exact Gh.W
   ·exfalso;simp at *;omega
  ·obtain rfl:k=a.length:=by omega
   have ht:(xorS a b).take a.length=xorS a b:=List.take_of_length_le (by omega);rw [ht];have hz:=orS_xor h
   have hq:(((orS (xorS a b)).toNat:Int) == 0)=decide (a=b):=by
    rw [Bool.eq_iff_iff];simp only [beq_iff_eq,decide_eq_true_eq,←hz,←UInt8.toNat_inj];simp
   repeat' (first|((first|refine wA2 ?_|((with_reducible apply AP.k_any);first|refine AP.E ?_))<;>try refine NX ?_)|refine wT2 ?_|with_reducible intro Q' hQ'|(refine GC ?_ ?_<;>intro hc)|simp only [laq])
   all_goals first
    | (exfalso;simp at *;done)
    | (exfalso;simp at *;omega)
    | (refine RB1 ?_;(exact ⟨by rw [←hq],rfl⟩))
 ·have hd:decide (a=b)=false:=by simp;rintro rfl;exact h rfl
  rw [hd];refine AC.E func95 ntmps95 ?_;intros
  repeat' (first|((first|refine wA2 ?_|((with_reducible apply AP.k_any);first|refine AP.E ?_))<;>try refine NX ?_)|refine wT2 ?_|with_reducible intro Q' hQ'|(refine GC ?_ ?_<;>intro hc)|simp only [laq])
  ·(refine RB1 ?_;(exact ⟨rfl,rfl⟩))
  all_goals (exfalso;simp at *;omega)
theorem run_indexa {T N e n:Nat} {i ie:TI} {k:IntKind} {j:Int} {vs:List Value} (hT:tt[T]? = some i) (hk:i.kd=.ar N e) (he:tt[e]? = some ie) (hsz:ie.size=n) (hrow:rowK ie.kd=true) (h0:0<=j) (hj:j < N) (w:World):(Instr.index T (.agg vs.toArray) (.int k j)).run prog w=.ok (.agg ((vs.drop (j.toNat * n)).take n).toArray) w:=by
 obtain ⟨d,hd,hr,_⟩:=ty_row he hrow
 have hagg:(isAgg e).run prog w=.ok true w:=by
  unfold isAgg;rw [Sem.run_bind,run_underlying hd w]
  cases d<;>first|rfl|(simp [TypeDesc.isRow] at hr;done)
 have hsize:=ty_size he w;simp [Instr.index,asIntOf,Sem.run_bind,run_underlying (ty_ar hT hk),Result.andThen_ok,h0,hj,hsize,hsz,part,hagg,asAgg,go_sem,List.extract_eq_take_drop]
section
variable {X:Cx} {s:AS} {ops:Array Oper} {rest:List Oper} {Q:Exit->AS->Prop} {d:Option Nat} {ty:Nat} {pos:String} {aft:Array Edge}
theorem AP.IA {T N e n:Nat} {x y:Operand} {l l':List AV} {k:IntKind} {j:Int} {i ie:TI} (K:AP prog X ops Q rest (s.put d (.ag l'))) (hx:aev s x=.ag l:=by exact rfl) (hy:aev s y=.sc (.int k j):=by exact rfl) (hT:tt[T]? = some i:=by exact rfl) (hk:i.kd=.ar N e:=by exact rfl) (he:tt[e]? = some ie:=by exact rfl) (hsz:ie.size=n:=by exact rfl) (hrow:rowK ie.kd=true:=by exact rfl)
 (hl:(l.drop (j.toNat * n)).take n=l':=by exact rfl) (hp:0<=j/\j < N:=by (exact PF0)):AP prog X ops Q (⟨d,.index T x y,ty,pos,aft,none⟩ :: rest) s:=
 AP.pure rfl (.of_run fun X φ κ f a w h=>by
  have h1:=h.evs hx;have h2:=h.evc hy;generalize hp':a.eval x=p at h1
  cases h1 with
  | ag hc ho=>
   subst hl;refine ⟨_,.ag (hc.drop_ (j.toNat * n) n) (fun u hu=>ho u (List.mem_of_mem_drop (List.mem_of_mem_take hu))),fun w' _=>?_⟩;simp only [execOp,hp',h2,Sem.run_bind,run_indexa hT hk he hsz hrow hp.1 hp.2];simp [go_sem]) K
end
section
variable {s:AS} {ops:Array Oper} {all:List Oper} {K:AS->Prop} {acc:List Fp} {l:List Oper} {av:AV} {op:Op} {ty:Nat} {pos:String} {aft:Array Edge} {g:Option (Nat×Bool)} {d:Nat} {T:List Nat} {F:List Nat} {r:Bool}
theorem DW.IA (hk:DW prog ops all K (⟨T,some d,F,false⟩ :: acc) l ⟨s.t.set d av,s.b⟩) (hg:gdS ops s g=some r:=by exact rfl) (hT:opTs ops ⟨some d,op,ty,pos,aft,g⟩=T:=by (simp only [ft,nm,Nat.reduceAdd,Nat.reduceBEq,List.getElem?_cons_zero,List.getElem?_cons_succ];exact rfl)) (hF:ftF 0 s op=F:=by (simp only [ft,nm,Nat.reduceAdd,Nat.reduceBEq,List.getElem?_cons_zero,List.getElem?_cons_succ];exact rfl)) (h:∀ X V,AP prog X ops (fun e s'=>e=.normal/\s'=⟨(msT T 0 s.t).set d av,msB F V 0 s.b⟩) [⟨some d,op,ty,pos,aft,g⟩] ⟨msT T 0 s.t,msB F V 0 s.b⟩:=by (intro X V;simp only [ft,nm,Nat.reduceAdd,Nat.reduceBEq];(try (refine AP.Y ?_;dsimp only));refine AP.IA ?_;(try refine NX ?_);refine AP.nil ?_;first|exact ⟨trivial,rfl⟩|exact ⟨rfl,rfl⟩)) (hy:nyF F 0 s.b=true:=by exact rfl) :
 DW prog ops all K acc (⟨some d,op,ty,pos,aft,g⟩ :: l) s:=DW.rd 0 hT hF h hk hy
end
structure Pkt where
 frm:Int
 to:Int
 epoch:Int
 boot:Int
 seqn:Int
 body:List UInt8
 tag:List UInt8
abbrev eP (p:Pkt):List AV:=[I p.frm,I p.to,I p.epoch,I p.boot,I p.seqn,bs none p.body,U (p.tag.getD 0 0),U (p.tag.getD 1 0),U (p.tag.getD 2 0),U (p.tag.getD 3 0),U (p.tag.getD 4 0),U (p.tag.getD 5 0),U (p.tag.getD 6 0),U (p.tag.getD 7 0),U (p.tag.getD 8 0),U (p.tag.getD 9 0),U (p.tag.getD 10 0),U (p.tag.getD 11 0),U (p.tag.getD 12 0),U (p.tag.getD 13 0),U (p.tag.getD 14 0),U (p.tag.getD 15 0),U (p.tag.getD 16 0),U (p.tag.getD 17 0),U (p.tag.getD 18 0),U (p.tag.getD 19 0),U (p.tag.getD 20 0),U (p.tag.getD 21 0),U (p.tag.getD 22 0),U (p.tag.getD 23 0),U (p.tag.getD 24 0),U (p.tag.getD 25 0),U (p.tag.getD 26 0),U (p.tag.getD 27 0),U (p.tag.getD 28 0),U (p.tag.getD 29 0),U (p.tag.getD 30 0),U (p.tag.getD 31 0)]
instance:DecidableEq Member:=fun a b=>decidable_of_iff (a.node=b.node/\a.since=b.since/\a.whole=b.whole) (by cases a;cases b;simp)
abbrev Wst:=Bool×List UInt8
theorem haddS_ok {x b:List UInt8} (h:x.length + b.length<=65536):addS (false,x) b=(false,x ++ b):=by
 rw [addS,if_neg (by simp;omega)]
section
open Go.RowKit Go.ChangeShapes Go.WideShapes Go.ChangeAt Go.Deep
theorem bulk_one {H:Type} (d:DataW H):1<=Rows.uptoBulk d:=by
 cases d with
 | lit l=>cases l<;>simp [Rows.uptoBulk]
 | _=>simp [Rows.uptoBulk]
theorem bulk_part {H:Type} {d:DataW H} {l:List (DataW H)} (h:d∈l):Rows.uptoBulk d<=Rows.uptoBulkAll l:=by
 induction l with
 | nil=>cases h
 | cons x r ih=>
  simp only [Rows.uptoBulkAll]
  cases List.mem_cons.1 h with
  | inl e=>subst e;omega
  | inr e=>have:=ih e;omega
theorem bulk_length {H:Type} (l:List (DataW H)):l.length<=Rows.uptoBulkAll l:=by
 induction l with
 | nil=>simp [Rows.uptoBulkAll]
 | cons x r ih=>have:=bulk_one x;simp only [Rows.uptoBulkAll,List.length_cons];omega
def OA (P:Program) (t:TypeId) (k:Nat) {α:Type} (ok:Nat->α->Prop) (e:α->List AV):Prop:=
 P.cellsOf t=k/\(∀ m n d,m<=n->ok m d->ok n d)/\∀ {H:Type} {enc:TypeId×Value->H} {w:World} {base:Nat} {fuel:Nat} {cs:List Value} {x:DataW H×List MemPlace},
  DataW.trod enc P w base (fun _=>true) true fuel t cs=some x->∃ d:α,ok (Rows.uptoBulk x.1) d/\(∀ φ κ,RC w φ κ (fun b=>b < w.heap.size) (e d) cs Ct.z)/\(∀ u∈cs,u.oneCell'=true)/\(∀ a∈e d,a.leaf=true)/\cs.length=k
section
variable {P:Program} {t e:TypeId} {α β:Type} {ok:Nat->α->Prop} {k:Nat} {en:α->List AV}
theorem OA.map (h:OA P t k ok en) (f:α->β) {ok':Nat->β->Prop} {en':β->List AV} (hm:∀ m n d,m<=n->ok' m d->ok' n d) (h1:∀ n a,ok n a->ok' n (f a)) (h2:∀ a,en' (f a)=en a):OA P t k ok' en':=
 ⟨h.1,hm,fun hx=>by
  obtain ⟨d,a,b,c⟩:=h.2.2 hx;exact ⟨f d,h1 _ _ a,by rw [h2];exact b,by rw [h2];exact c⟩⟩
theorem OA.wmap (h:OA P t k ok en) (f:α->β) {ok':Nat->β->Prop} {en':β->List AV} (hm:∀ m n d,m<=n->ok' m d->ok' n d) (h1:∀ n a,ok n a->ok' n (f a)) (h2:∀ n a,ok n a->en' (f a)=en a):OA P t k ok' en':=
 ⟨h.1,hm,fun hx=>by
  obtain ⟨d,a,b,c⟩:=h.2.2 hx;exact ⟨f d,h1 _ _ a,by rw [h2 _ _ a];exact b,by rw [h2 _ _ a];exact c⟩⟩
theorem RC.one_ {w:World} {φ:Fi} {κ:Ka} {R:Nat->Prop} {a:AV} {v:Value} (h:RV w φ κ R a v Ct.z):RC w φ κ R [a] [v] Ct.z:=.cons (S:=Ct.z) (T:=Ct.z) h .nil fun _=>rfl
theorem oa_int {κ:IntKind} (ht:P.underlying t=some (.int κ)) (hc:P.cellsOf t=1):OA P t 1 (fun _ (n:Int)=>(Lit.int κ n).wf=true) (fun n=>[.sc (.int κ n)]):=
 ⟨hc,fun _ _ _ _ h=>h,fun h=>by
  obtain ⟨n,rfl,_,hw⟩:=DataW.trod_int ht h;exact ⟨n,hw,fun _ _=>RC.one_ (.sc rfl),fun u hu=>by simp at hu;subst hu;rfl,fun a ha=>by simp at ha;subst ha;rfl,rfl⟩⟩
theorem oa_bool (ht:P.underlying t=some .bool) (hc:P.cellsOf t=1):OA P t 1 (fun _ (_:Bool)=>True) (fun n=>[.sc (.bool n)]):=
 ⟨hc,fun _ _ _ _ h=>h,fun h=>by
  obtain ⟨n,rfl,_⟩:=DataW.trod_bool ht h;exact ⟨n,trivial,fun _ _=>RC.one_ (.sc rfl),fun u hu=>by simp at hu;subst hu;rfl,fun a ha=>by simp at ha;subst ha;rfl,rfl⟩⟩
theorem oa_string (ht:P.underlying t=some .string) (hc:P.cellsOf t=1):OA P t 1 (fun m (n:ByteArray)=>n.size < m) (fun n=>[.sc (.string n)]):=
 ⟨hc,fun _ _ _ h k=>Nat.lt_of_lt_of_le k h,fun h=>by
  obtain ⟨n,rfl,rfl,hw⟩:=DataW.trod_string ht h;exact ⟨n,by (simp [Rows.uptoBulk]),fun _ _=>RC.one_ (.sc rfl),fun u hu=>by simp at hu;subst hu;rfl,fun a ha=>by simp at ha;subst ha;rfl,rfl⟩⟩
theorem RE.of_rows {w:World} {φ:Fi} {κ:Ka} {R:Nat->Prop} {k:Nat} {en:α->List AV} {l:List α} (css:Nat->List Value) (h:∀ i x,l[i]? = some x->RC w φ κ R (en x) (css i) Ct.z/\(∀ u∈css i,u.oneCell'=true)/\(∀ a∈en x,a.leaf=true)/\(css i).length=k) :
 RE w φ κ R k (l.map en) ((List.range l.length).flatMap css) Ct.z:=by
 induction l generalizing css with
 | nil=>exact .nil
 | cons x l ih=>
  have h0:=h 0 x rfl;have h1:=ih (fun i=>css (i + 1)) fun i y hy=>h (i + 1) y (by simpa using hy)
  rw [List.length_cons,List.range_succ_eq_map,List.flatMap_cons,List.flatMap_map];exact .cons (S:=Ct.z) (T:=Ct.z) h0.1 h0.2.2.2 ⟨h0.2.1,h0.2.2.1⟩ h1 fun _=>rfl
theorem flat_at {css:Nat->List Value} {k n:Nat} (h:∀ i,i < n->(css i).length=k):∀ {j:Nat} {u:Value},((List.range n).flatMap css)[j]? = some u->∃ i r,i < n/\j=i * k + r/\(css i)[r]? = some u:=by
 induction n generalizing css with
 | zero=>intro j u hj;simp at hj
 | succ n ih=>
  intro j u hj;rw [List.range_succ_eq_map,List.flatMap_cons,List.flatMap_map] at hj;have h0:=h 0 (by omega)
  by_cases hjk:j < k
  ·rw [List.getElem?_append_left (by omega)] at hj;exact ⟨0,j,by omega,by omega,hj⟩
  ·rw [List.getElem?_append_right (by omega)] at hj;obtain ⟨i,r,hi,hr,hu⟩:=ih (css:=fun i=>css (i + 1)) (fun i hi=>h (i + 1) (by omega)) hj;refine ⟨i + 1,r,by omega,?_,hu⟩;rw [Nat.add_mul];omega
theorem spot_none {w:World} {a:Addr} {u:Value} (h:w.cell? (a.add 0)=some u):a.spot=none:=by
 obtain ⟨ab,ao,asp⟩:=a
 cases hsp:asp with
 | none=>rfl
 | some s=>
  rw [hsp] at h;simp [Addr.add,World.cell?] at h;split at h<;>simp at h
theorem oa_slice (hk:0 < k) (ht:P.underlying t=some (.slice e)) (hc:P.cellsOf t=1) (hE:OA P e k ok en):OA P t 1 (fun N (l:List α)=>(∀ x∈l,ok N x)/\l.length < N) (fun l=>[.sl none k (l.map en)]):=by
 refine ⟨hc,fun m n d h k=>⟨fun x hx=>hE.2.1 _ _ _ h (k.1 x hx),Nat.lt_of_lt_of_le k.2 h⟩,?_⟩;intro H enc w base fuel cs x h;rcases open_slice ht h with ⟨rfl,rfl⟩|⟨a,len,cap,m,n,D,Pl,rfl,hb,hl,hm,hmm,hx,hi⟩
 ·exact ⟨[],⟨fun x hx=>by simp at hx,by simp [Rows.uptoBulk]⟩,fun _ _=>RC.one_ .ni,fun u hu=>by simp at hu;subst hu;rfl,fun a ha=>by simp at ha;subst ha;rfl,rfl⟩
 ·obtain rfl:m=cap:=by simpa using hmm
  clear hmm
  have hbulk:∀ i,i < len->Rows.uptoBulk (D i)<=Rows.uptoBulk x.1:=by
   intro i hi;rw [hx];have:=bulk_part (d:=D i) (l:=(List.range len).map D) (List.mem_map.2 ⟨i,List.mem_range.2 hi,rfl⟩);simp only [Rows.uptoBulk];omega
  have hlenb:len < Rows.uptoBulk x.1:=by
   rw [hx];have:=bulk_length ((List.range len).map D);simp only [Rows.uptoBulk];simp only [List.length_map,List.length_range] at this;omega
  have hall:∀ i,i < len->∃ (d:α) (cs':List Value),(ok (Rows.uptoBulk x.1) d/\(∀ φ κ,RC w φ κ (fun b=>b < w.heap.size) (en d) cs' Ct.z)/\(∀ u∈cs',u.oneCell'=true)/\(∀ a∈en d,a.leaf=true)/\cs'.length=k)/\∀ j u,cs'[j]? = some u->w.cell? ((a.add (i * k)).add j)=some u:=by
   intro i hil;obtain ⟨cs',hcs,htr⟩:=hi i (by omega);obtain ⟨d,hd0,hd⟩:=hE.2.2 htr;rw [hE.1] at hcs;obtain ⟨_,hlen,hat⟩:=World.cells?_some hcs;exact ⟨d,cs',⟨hE.2.1 _ _ _ (hbulk i hil) hd0,hd⟩,fun j u hu=>(hat j (by have:=(List.getElem?_eq_some_iff.1 hu).1;omega)).trans hu⟩
  have hsp0:0 < m->a.spot=none:=by
   intro h0;obtain ⟨cs',hcs,_⟩:=hi 0 h0;rw [hE.1] at hcs;obtain ⟨_,hlen,hat⟩:=World.cells?_some hcs;have hz:=hat 0 (by omega);rw [List.getElem?_eq_getElem (by omega)] at hz;have e0:a.add (0 * k)=a:=by simp [Addr.add]
   rw [e0] at hz;exact spot_none hz
  have hex:∃ (l:List α) (css:Nat->List Value),l.length=len/\∀ i y,l[i]? = some y->(ok (Rows.uptoBulk x.1) y/\(∀ φ κ,RC w φ κ (fun b=>b < w.heap.size) (en y) (css i) Ct.z)/\(∀ u∈css i,u.oneCell'=true)/\(∀ a∈en y,a.leaf=true)/\(css i).length=k)/\∀ j u,(css i)[j]? = some u->w.cell? ((a.add (i * k)).add j)=some u:=by
   clear hi hbulk hlenb h hx
   revert hall
   clear hl
   induction len with
   | zero=>exact fun _=>⟨[],fun _=>[],rfl,fun i x h=>by simp at h⟩
   | succ q ih=>
    intro hall;obtain ⟨l,css,hl,hq⟩:=ih (fun i hi=>hall i (by omega));obtain ⟨d,cs',hd,hcs⟩:=hall q (by omega);refine ⟨l ++ [d],fun i=>if i=q then cs' else css i,by simp [hl],fun i x hx=>?_⟩
    by_cases hik:i < q
    ·rw [List.getElem?_append_left (by omega)] at hx;simp only [show i≠q by omega,if_false];exact hq i x hx
    ·have hik':i=q:=by have:=(List.getElem?_eq_some_iff.1 hx).1;simp at this;omega
     subst hik';rw [List.getElem?_append_right (by omega),hl] at hx;simp at hx;subst hx;simp only [if_true];exact ⟨hd,hcs⟩
  obtain ⟨l,css,hll,hq⟩:=hex;refine ⟨l,⟨fun y hy=>?_,by omega⟩,fun φ κ=>?_,fun u hu=>by simp at hu;subst hu;rfl,fun a ha=>by simp at ha;subst ha;rfl,rfl⟩
  ·obtain ⟨i,hi,rfl⟩:=List.mem_iff_getElem.1 hy;exact (hq i _ (List.getElem?_eq_getElem hi)).1.1
  ·refine RC.one_ ?_;subst hll
   by_cases h0:m=0
   ·subst h0;obtain rfl:l=[]:=List.eq_nil_of_length_eq_zero (by omega);exact .ne
   ·obtain ⟨ab,ao,asp⟩:=a;have hspn:=hsp0 (by omega);simp only at hspn;subst hspn
    have hflat:∀ j u,((List.range l.length).flatMap css)[j]? = some u->w.cell? ⟨ab,ao + j,none⟩=some u:=by
     intro j u hj;obtain ⟨i,r,hi,rfl,hu⟩:=flat_at (k:=k) (fun i hi=>(hq i _ (List.getElem?_eq_getElem hi)).1.2.2.2.2) hj;have:=(hq i _ (List.getElem?_eq_getElem hi)).2 r u hu
     have e1:(Addr.add (Addr.add ⟨ab,ao,none⟩ (i * k)) r)=⟨ab,ao + (i * k + r),none⟩:=by
      unfold Addr.add;split<;>split<;>simp_all [Nat.add_assoc]
     rw [e1] at this;exact this
    have hE':RE w φ κ (fun b=>b < w.heap.size) k (l.map en) ((List.range l.length).flatMap css) Ct.z:=RE.of_rows css fun i x hx=>⟨(hq i x hx).1.2.1 φ κ,(hq i x hx).1.2.2⟩
    have:=RV.ro (c:=m) (b:=ab) (o:=ao) hE' (by simp;omega) hm (fun hne=>by
     have hl0:0 < l.length:=by cases l with
      | nil=>exact absurd rfl hne
      | cons _ _=>simp
     have hc0:=(hq 0 _ (List.getElem?_eq_getElem hl0)).1.2.2.2.2;have hz:=(hq 0 _ (List.getElem?_eq_getElem hl0)).2 0 _ (List.getElem?_eq_getElem (by omega));simp only [Addr.add,Nat.zero_mul,if_true,World.cell?] at hz
     cases hh:w.heap[ab]? with
     | none=>simp [hh] at hz
     | some o=>exact (Array.getElem?_eq_some_iff.1 hh).1) hflat
    simpa using this
def OFs (P:Program) (fs:List Field) (off k:Nat) {α:Type} (ok:Nat->α->Prop) (e:α->List AV):Prop:=
 (∀ m n d,m<=n->ok m d->ok n d)/\∀ {H:Type} {enc:TypeId×Value->H} {w:World} {base:Nat} {cs:List Value} {N:Nat},
   (∀ f∈fs,∃ n y,DataW.trod enc P w base (fun _=>true) true n f.type ((cs.drop f.offset).take (P.cellsOf f.type))=some y/\Rows.uptoBulk y.1<=N)->off + k<=cs.length ->
   ∃ d:α,ok N d/\(∀ φ κ,RC w φ κ (fun b=>b < w.heap.size) (e d) ((cs.drop off).take k) Ct.z)/\(∀ u∈(cs.drop off).take k,u.oneCell'=true)/\(∀ a∈e d,a.leaf=true)
theorem of_nil {off:Nat}:OFs P [] off 0 (fun _ (_:Unit)=>True) (fun _=>[]):=
 ⟨fun _ _ _ _ _=>trivial,fun {H enc w base cs N} _ _=>⟨(),trivial,fun φ κ=>by simp;exact .nil,fun u hu=>by simp at hu,fun a ha=>by cases ha⟩⟩
theorem of_cons {f:Field} {fs:List Field} {off k2:Nat} {ok2:Nat->β->Prop} {en2:β->List AV} (hoff:f.offset=off) (h1:OA P f.type k ok en) (h2:OFs P fs (off + k) k2 ok2 en2) :
 OFs P (f :: fs) off (k + k2) (fun N (d:α×β)=>ok N d.1/\ok2 N d.2) (fun d=>en d.1 ++ en2 d.2):=
 ⟨fun m n d h k=>⟨h1.2.1 _ _ _ h k.1,h2.1 _ _ _ h k.2⟩,fun {H enc w base cs N} hf hl=>by
  subst hoff;obtain ⟨n,y,hy,hyb⟩:=hf f (by simp);rw [h1.1] at hy;obtain ⟨a,a1,a2,a3,a4,a5⟩:=h1.2.2 hy;obtain ⟨b,b1,b2,b3,b4⟩:=h2.2 (cs:=cs) (N:=N) (fun g hg=>hf g (by simp [hg])) (by omega)
  have e0:(cs.drop f.offset).take (k + k2)=(cs.drop f.offset).take k ++ (cs.drop (f.offset + k)).take k2:=by
   rw [List.take_add,List.drop_drop]
  refine ⟨(a,b),⟨h1.2.1 _ _ _ hyb a1,b1⟩,fun φ κ=>?_,fun u hu=>?_,fun x hx=>?_⟩
  ·rw [e0];exact (a2 φ κ).append (b2 φ κ) fun _=>rfl
  ·rw [e0] at hu;exact (List.mem_append.1 hu).elim (a3 u) (b3 u)
  ·exact (List.mem_append.1 hx).elim (a4 x) (b4 x)⟩
theorem oa_struct {fs:Array Field} (ht:P.underlying t=some (.struct fs)) (hc:P.cellsOf t=k) (h:OFs P fs.toList 0 k ok en):OA P t k ok en:=
 ⟨hc,h.1,fun {H enc w base fuel cs x} hx=>by
  obtain ⟨xs,n,_,hxx,hl,hn,hg⟩:=DataW.trod_struct ht hx
  obtain ⟨d,d1,d2,d3,d4⟩:=h.2 (cs:=cs) (N:=Rows.uptoBulk x.1) (fun f hf=>by
   obtain ⟨i,hi,rfl⟩:=List.mem_iff_getElem.1 hf;have hi':i < fs.size:=by simpa using hi
   have:=hg i (fs.toList[i]) (by simp [hi']);rw [List.getElem?_eq_getElem (by omega)] at this;refine ⟨n,_,this,?_⟩;have hb:=bulk_part (d:=(xs[i]'(by omega)).1) (l:=xs.map (·.1)) (List.mem_map.2 ⟨_,List.getElem_mem _,rfl⟩);rw [hxx];simp only [Rows.uptoBulk];omega) (by omega)
  rw [hc] at hl;have e0:(cs.drop 0).take k=cs:=by rw [List.drop_zero];exact List.take_of_length_le (by omega)
  rw [e0] at d2 d3;exact ⟨d,d1,d2,d3,d4,hl⟩⟩
variable {H:Type} {enc:TypeId×Value->H} {w:World} {base b0:Nat} {r:Reach} {v:Value} {d:DataW H} {p:List MemPlace}
theorem arg_1 {f:α->AV} (hE:OA P t 1 ok (fun x=>[f x])) (hv:v.cells.toList=[v]) (h:DataW.Trod enc P w base (fun _=>true) true t v d p) :
 ∃ x,ok (Rows.uptoBulk d) x/\∀ φ κ,RV w φ κ (fun b=>b < w.heap.size) (f x) v Ct.z:=by
 obtain ⟨fuel,hf⟩:=h;obtain ⟨x,x1,x2,x3,_⟩:=hE.2.2 hf;refine ⟨x,x1,fun φ κ=>?_⟩;have h1:=x2 φ κ;rw [hv] at h1
 cases h1 with
 | cons a b c=>obtain ⟨rfl,rfl⟩:=Ct.split c;exact a
theorem cells_slice (ht:P.underlying t=some (.slice e)) (hv:Value.okWide P w r b0 t v):v.cells.toList=[v]:=by
 unfold Value.okWide at hv;rw [ht] at hv
 cases v with
 | agg cs=>simp only [Cell.okWide,ht] at hv;simp [Cell.ok,ht] at hv
 | tuple cs=>simp only [Cell.okWide,ht] at hv;simp [Cell.ok,ht] at hv
 | _=>rfl
theorem trodAll_below (hl:laidOutB P=true) {W W':World} (hb:Below W.heap.size W W') :
 ∀ (ts:List TypeId) (vs:List Value) (ds:List (DataW H)) (ps:List MemPlace),(∀ t∈ts,P.readableRec t=true/\t < P.types.size)->(∀ x∈ps,x.block < W.heap.size) ->
  DataW.TrodAll enc P W 0 (fun _=>true) true ts vs ds ps->DataW.TrodAll enc P W' 0 (fun b=>decide (b < W.heap.size)) true ts vs ds ps
 | [],[],[],ps,_,_,h=>h
 | t :: ts,v :: vs,d :: ds,ps,hr,hlt,h=>by
  obtain ⟨p,q,hd,hs,rfl⟩:=h;have hrt:=hr t (by simp);exact ⟨p,q,Below.trod hl hrt.1 hrt.2 hd hb fun x hx=>hlt x (by simp [hx]),trodAll_below hl hb ts vs ds q (fun t ht=>hr t (by simp [ht])) (fun x hx=>hlt x (by simp [hx])) hs,rfl⟩
 | [],_ :: _,_,_,_,_,h=>by simp [DataW.TrodAll] at h
 | [],[],_ :: _,_,_,_,h=>by simp [DataW.TrodAll] at h
 | _ :: _,[],_,_,_,_,h=>by simp [DataW.TrodAll] at h
 | _ :: _,_ :: _,[],_,_,_,h=>by simp [DataW.TrodAll] at h
theorem law_post {f:Func} {s:ChangeSpec} {apart fresh handsOn:Bool} {W W':World} {args:Array Value} {ds gs:List (DataW H)} {before:List MemPlace} {tb:TypeId}
 (hl:laidOutB P=true) (hv:s.vars=[]) (hrt:f.resultTypes=#[tb]) (hub:P.underlying tb=some .bool) (hread:(f.params.toList.all fun t=>P.readableRec t && decide (t < P.types.size))=true)
 (hW:DataW.Whole enc P f.params.toList s.vars apart W args.toList ds gs before) (hfn:∀ gs',gs'=[]->s.fn H (ds ++ gs')={ results:=[.lit (.bool true)],args:=ds }) (hb:Below W.heap.size W W') :
 s.post enc P f apart fresh handsOn false W args (.bool true) W':=by
 have hread':∀ t∈f.params.toList,P.readableRec t=true/\t < P.types.size:=fun t ht=>by
  have:=List.all_eq_true.1 hread t ht
  simpa using this
 have hW':=hW;obtain ⟨p,q,hA,hV,rfl,hfz,hnd⟩:=hW;rw [hv] at hV;obtain ⟨rfl,rfl⟩:=trodVars_none hV;have hlt:∀ x∈p,x.block < W.heap.size:=fun x hx=>hW'.lt x (by simpa using hx)
 refine ⟨ds,[],p ++ [],[],p,[],hW',?_,?_,?_,?_,fun h=>by cases h⟩
 ·rw [hfn [] rfl,hrt];exact trodAll_mk1 (shut_bool hub true)
 ·rw [hfn [] rfl];exact trodAll_below hl hb _ _ _ _ hread' hlt hA
 ·rw [hv,hfn [] rfl];rfl
 ·refine World.keptBut_mono (fun x hx=>⟨hx,.inr (.inl (by simpa using hx))⟩) (hb.frame (·∈p ++ []))
theorem ac_law {fn:Nat} {args:List AV} {vs:List Value} {W:World} (h:AC P fn args [] (fun v bs'=>v=.sc (.bool true)/\bs'=[])) (ha:∀ φ κ,RC W φ κ (fun b=>b < W.heap.size) args vs Ct.z) :
 Calls P fn vs.toArray W fun e W'=>e=.returned (.bool true)/\Below W.heap.size W W':=by
 refine (h.2 W (fun _ _=>none) (fun _ _=>none) _ vs [] Ct.z Ct.z (ha _ _) .nil (fun i g B hi=>by simp at hi) (fun _ _ _=>rfl) (fun _ _ _=>rfl) (fun x=>by simp [Ct.z]) (fun x hx=>by simp [Ct.z] at hx) (fun x hx=>⟨hx,rfl⟩)).mono ?_;rintro e W' ⟨v,r,bs',gs',Sr,Sb',φ',F,rfl,⟨rfl,rfl⟩,hr,_,_,_,_,_,_,hf⟩
 cases hr with
 | sc=>exact ⟨rfl,hf.os,hf.tape,hf.output,hf.size,fun b hb=>hf.block b hb rfl⟩
theorem bulk_of {l:List (DataW H)} (hk:Rows.uptoSmall H l=true):Rows.uptoBulkAll l<=1048576:=of_decide_eq_true hk
end
end
section
open Go.RowKit Go.ChangeShapes Go.WideShapes Go.ChangeAt Go.Deep
theorem laidOut:laidOutB prog=true:=by kernel_rfl
theorem own_knob:ownKnob prog.godebug=none:=by kernel_rfl
def I64 (x:Int):Prop:=-9223372036854775808<=x/\x<=9223372036854775807
theorem i64_of {x:Int} (h:(Lit.int .i64 x).wf=true):I64 x:=by simpa [Lit.wf,IntKind.min,IntKind.max,IntKind.signed,IntKind.bits,I64] using h
theorem u8_of {x:Int} (h:(Lit.int .u8 x).wf=true):0<=x/\x<=255:=by simpa [Lit.wf,IntKind.min,IntKind.max,IntKind.signed,IntKind.bits] using h
theorem oi:OA prog 3 1 (fun _ x=>I64 x) (fun x=>[I x]):=(oa_int Tryz.underlying3 (by kernel_rfl)).map id (fun _ _ _ _ h=>h) (fun _ _ h=>i64_of h) fun _=>rfl
theorem ou:OA prog 5 1 (fun _ (_:UInt8)=>True) eB:=(oa_int Tryz.underlying5 (by kernel_rfl)).wmap (fun x:Int=>UInt8.ofNat x.toNat) (fun _ _ _ _ h=>h) (fun _ _ _=>trivial) fun n x hx=>by
 have h:=u8_of hx;have e:((UInt8.ofNat x.toNat).toNat:Int)=x:=by rw [UInt8.toNat_ofNat'];omega
 simp only [eB,U,e]
theorem obs:OA prog 22 1 (fun N (l:List UInt8)=>(∀ x∈l,True)/\l.length < N) (fun l=>[bs none l]):=oa_slice (by decide) Tryz.underlying22 (by kernel_rfl) ou
end
theorem done_ac (b:List UInt8) (hb:b.length<=65536):AC prog 124 [.bp 0 0 0] [wB (false,b)] (fun v bs'=>v=.tu [bs none b,I 0]/\bs'=[wD (false,b)]):=wdone_ac (false,b) hb
