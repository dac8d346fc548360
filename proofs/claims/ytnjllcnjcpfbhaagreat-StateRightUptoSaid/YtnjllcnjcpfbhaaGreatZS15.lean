/- Parts. -/
import Derived.Test.YtnjllcnjcpfbhaaGreatZS14
namespace Go.Proofs.YtnjllcnjcpfbhaaGreat
set_option linter.unusedVariables false
set_option linter.unusedSimpArgs false
open Go.RowKit Go.Proofs.Tryz
set_option maxRecDepth 100000
set_option maxHeartbeats 8000000
theorem shaS_len (b:List UInt8):(shaS b).length=32:=rfl
def keyS (key:List UInt8):List UInt8:=if 64 < key.length then shaS key else key
theorem keyS_len (key:List UInt8):(keyS key).length<=64:=by
 unfold keyS;split
 ·rw [shaS_len];omega
 ·omega
def fullS (k:List UInt8):List UInt8:=k ++ List.replicate (64 - k.length) 0
theorem fullS_len {k:List UInt8} (h:k.length<=64):(fullS k).length=64:=by simp [fullS];omega
def xorK (k:List UInt8) (x:UInt8):List UInt8:=(fullS k).map (· ^^^ x)
theorem xorK_len {k:List UInt8} (h:k.length<=64) (x:UInt8):(xorK k x).length=64:=by rw [xorK,List.length_map,fullS_len h]
def hmacS (key b:List UInt8):List UInt8:=shaS (xorK (keyS key) 0x5c ++ shaS (xorK (keyS key) 0x36 ++ b))
theorem dbytes03_ac (t:List UInt8) (ht:t.length=32):AF 157 [tg t] (bs (some tU) t):=by
 have hT:(tagC t).length=32:=rfl
 have hTt:∀ i,i < 32->(tagC t)[i]? = some (U (t.getD i 0)):=by
  intro i hi;have:=mixT_32 t;rw [←this];simp [mixT,hi]
 refine AC.E func157 ntmps157 ?_;intros
 repeat' (first|((first|refine wA8 ?_|((with_reducible apply AP.k_any);first|refine AP.E ?_)|refine wA6 ?_)<;>(try simp only [nx,q4,rn,fq,Nat.mul_one,Bool.and_true,Bool.and_false,Nat.reduceBEq,Nat.reduceAdd,Nat.reduceSub,BEq.rfl]))|refine wT2 ?_|with_reducible intro Q' hQ'|(refine GC ?_ ?_<;>intro hc)|simp only [laq])
 refine CP.gh (gh_nil (t:=3) (e:=tU) (k:=1) rfl) ?_;refine NX ?_;refine CP.gh gh_slot ?_;refine NX ?_;refine cp_loopS [3,4,5,6,7,8,9,10,11,12,13,14] (fun a:Nat×Nat×Nat=>32 - a.1) (fun a=>a.1<=32) (fun a=>[(4,I a.1),(3,.hd 1 a.2.1)]) (fun a=>[(1,⟨a.2.1,.r tU 1 ((t.take a.1).map eB)⟩),(2,⟨a.2.2,.x⟩)]) (0,1,0) (Nat.zero_le _) (by exact Gh.W) ?_;rintro ⟨i,u,v⟩ hi;refine ST0 ?_;dsimp only at hi
 by_cases hlt:i < 32
 ·have hw:IntKind.i64.wrap ((i:Int) + 1)=((i + 1:Nat):Int):=wrap_i64 (by omega) (by omega);have d32:decide ((i:Int) < 32)=true:=by simp;omega
  have hx:=hTt i hlt
  have hsn:(t.take i).map eB ++ [[U (t.getD i 0)]]=(t.take (i + 1)).map eB:=by
   rw [List.take_succ_eq_append_getElem (by omega),List.map_append,List.getD_eq_getElem?_getD,List.getElem?_eq_getElem (by omega)];rfl
  have hlen:((t.take i).map eB).length + 1<=1000000000:=by simp;omega
  generalize t.getD i 0=c at *;generalize (t.take i).map eB=W at *
  repeat' (first|((first|refine wA8 ?_|((with_reducible apply AP.k_any);first|refine AP.E ?_)|refine wA6 ?_)<;>(try simp only [d32,Int.toNat_natCast,nx,q4,rn,fq,Nat.mul_one,Bool.and_true,Bool.and_false,Nat.reduceBEq,Nat.reduceAdd,Nat.reduceSub,BEq.rfl]))|refine wT2 ?_|with_reducible intro Q' hQ'|(refine GC ?_ ?_<;>intro hc)|simp only [laq])
  simp only [hw];refine ⟨(i + 1,u + 1,v + 1),by (dsimp only;omega),by (dsimp only;omega),?_⟩;dsimp only;rw [←hsn];exact Gh.W
 ·obtain rfl:i=32:=by omega
  have d32:decide (((32:Nat):Int) < 32)=false:=by simp
  rw [List.take_of_length_le (by omega)]
  repeat' (first|((first|refine wA8 ?_|((with_reducible apply AP.k_any);first|refine AP.E ?_)|refine wA6 ?_)<;>(try simp only [d32,nx,q4,rn,fq,Nat.mul_one,Bool.and_true,Bool.and_false,Nat.reduceBEq,Nat.reduceAdd,Nat.reduceSub,BEq.rfl]))|refine wT2 ?_|with_reducible intro Q' hQ'|(refine GC ?_ ?_<;>intro hc)|simp only [laq])
  (refine RB1 ?_;(exact ⟨rfl,rfl⟩))
theorem xor8v (x y:UInt8):IntKind.u8.wrap (((BitVec.ofInt IntKind.u8.bits (x.toNat:Int)) ^^^ (BitVec.ofInt IntKind.u8.bits (y.toNat:Int))).toNat:Int)=((x ^^^ y).toNat:Int):=xor8 x y
theorem xor8z (y:UInt8):IntKind.u8.wrap (((BitVec.ofInt IntKind.u8.bits 0) ^^^ (BitVec.ofInt IntKind.u8.bits (y.toNat:Int))).toNat:Int)=(((0:UInt8) ^^^ y).toNat:Int):=xor8 0 y
theorem dblock_ac1 (K:List UInt8) (x:UInt8) (hK:K.length<=64):AF 156 [bs none K,U x] (bs (some tU) (xorK K x)):=by
 have d0:decide ((64:Int) < (K.length:Int))=false:=by simp;omega
 refine AC.E func156 ntmps156 ?_;intros
 repeat' (first|((first|refine wA8 ?_|((with_reducible apply AP.k_any);first|refine AP.E ?_)|refine wA6 ?_)<;>(try simp only [d0,nx,q4,rn,fq,Nat.mul_one,Bool.and_true,Bool.and_false,Nat.reduceBEq,Nat.reduceAdd,Nat.reduceSub,BEq.rfl]))|refine wT2 ?_|with_reducible intro Q' hQ'|(refine GC ?_ ?_<;>intro hc)|simp only [laq])
 refine CP.gh (gh_nil (t:=5) (e:=tU) (k:=1) rfl) ?_;refine NX ?_;refine CP.gh gh_slot ?_;refine NX ?_;refine cp_loopS [5,6,7,14,15,16,17,18,19,20,21,22,23,24,25,26,27,28,29,30,31] (fun a:Nat×Nat×Nat=>64 - a.1) (fun a=>a.1<=64) (fun a=>[(6,I a.1),(5,.hd 0 a.2.1)]) (fun a=>[(0,⟨a.2.1,.r tU 1 (((xorK K x).take a.1).map eB)⟩),(1,⟨a.2.2,.x⟩)]) (0,1,0) (Nat.zero_le _) (by exact Gh.W) ?_;rintro ⟨i,u,v⟩ hi;refine ST0 ?_;dsimp only at hi
 by_cases hlt:i < 64
 ·have hw:IntKind.i64.wrap ((i:Int) + 1)=((i + 1:Nat):Int):=wrap_i64 (by omega) (by omega);have d64:decide ((i:Int) < 64)=true:=by simp;omega
  have hfl:=fullS_len hK
  have hsn:((xorK K x).take i).map eB ++ [[U ((fullS K)[i] ^^^ x)]]=((xorK K x).take (i + 1)).map eB:=by
   rw [List.take_succ_eq_append_getElem (by rw [xorK_len hK];omega),List.map_append];simp [xorK]
  have hlen:(((xorK K x).take i).map eB).length + 1<=1000000000:=by simp;omega
  by_cases hki:i < K.length
  ·have dk:decide ((i:Int) < (K.length:Int))=true:=by simp;omega
   have hx:(K.map eB)[i]? = some (eB (fullS K)[i]):=by
    simp [fullS,hki,List.getElem_append_left]
   generalize (fullS K)[i]=c at *;have hx8:=xor8 c x;generalize ((xorK K x).take i).map eB=W at *
   repeat' (first|((first|refine wA8 ?_|((with_reducible apply AP.k_any);first|refine AP.E ?_)|refine wA6 ?_)<;>(try simp only [d64,dk,xor8v,nx,q4,rn,fq,Nat.mul_one,Bool.and_true,Bool.and_false,Nat.reduceBEq,Nat.reduceAdd,Nat.reduceSub,BEq.rfl]))|refine wT2 ?_|with_reducible intro Q' hQ'|(refine GC ?_ ?_<;>intro hc)|simp only [laq])
   simp only [hw];refine ⟨(i + 1,u + 1,v + 1),by (dsimp only;omega),by (dsimp only;omega),?_⟩;dsimp only;rw [←hsn];exact Gh.W
  ·have dk:decide ((i:Int) < (K.length:Int))=false:=by simp;omega
   have hx:(fullS K)[i]=0:=by
    simp [fullS,List.getElem_append_right (show K.length<=i by omega)]
   rw [hx] at hsn;have hx8:=xor8 0 x;generalize ((xorK K x).take i).map eB=W at *
   repeat' (first|((first|refine wA8 ?_|((with_reducible apply AP.k_any);first|refine AP.E ?_)|refine wA6 ?_)<;>(try simp only [d64,dk,xor8z,nx,q4,rn,fq,Nat.mul_one,Bool.and_true,Bool.and_false,Nat.reduceBEq,Nat.reduceAdd,Nat.reduceSub,BEq.rfl]))|refine wT2 ?_|with_reducible intro Q' hQ'|(refine GC ?_ ?_<;>intro hc)|simp only [laq])
   simp only [hw];refine ⟨(i + 1,u + 1,v + 1),by (dsimp only;omega),by (dsimp only;omega),?_⟩;dsimp only;rw [←hsn];exact Gh.W
 ·obtain rfl:i=64:=by omega
  have d64:decide (((64:Nat):Int) < 64)=false:=by simp
  rw [List.take_of_length_le (by rw [xorK_len hK];omega)]
  repeat' (first|((first|refine wA8 ?_|((with_reducible apply AP.k_any);first|refine AP.E ?_)|refine wA6 ?_)<;>(try simp only [d64,nx,q4,rn,fq,Nat.mul_one,Bool.and_true,Bool.and_false,Nat.reduceBEq,Nat.reduceAdd,Nat.reduceSub,BEq.rfl]))|refine wT2 ?_|with_reducible intro Q' hQ'|(refine GC ?_ ?_<;>intro hc)|simp only [laq])
  (refine RB1 ?_;(exact ⟨rfl,rfl⟩))
theorem dblock_ac2 (key:List UInt8) (x:UInt8) (hk:key.length<=1000000) (h64:64 < key.length):AF 156 [bs none key,U x] (bs (some tU) (xorK (shaS key) x)):=by
 have d0:decide ((64:Int) < (key.length:Int))=true:=by simp;omega
 have h1:=dsha_ac key hk;have h2:=(dbytes03_ac (shaS key) (shaS_len key)).ro (r2:=bs none (shaS key)) (by simp only [AV.ro,ro_B]);have hK:(shaS key).length<=64:=by rw [shaS_len];omega
 generalize shaS key=K at *;refine AC.E func156 ntmps156 ?_;intros
 repeat' (first|((first|refine wA8 ?_|((with_reducible apply AP.k_any);first|refine AP.E ?_)|refine wA6 ?_)<;>(try simp only [d0,nx,q4,rn,fq,Nat.mul_one,Bool.and_true,Bool.and_false,Nat.reduceBEq,Nat.reduceAdd,Nat.reduceSub,BEq.rfl]))|refine wT2 ?_|with_reducible intro Q' hQ'|(refine GC ?_ ?_<;>intro hc)|simp only [laq])
 refine CP.gh (gh_nil (t:=5) (e:=tU) (k:=1) rfl) ?_;refine NX ?_;refine CP.gh gh_slot ?_;refine NX ?_;refine cp_loopS [5,6,7,14,15,16,17,18,19,20,21,22,23,24,25,26,27,28,29,30,31] (fun a:Nat×Nat×Nat=>64 - a.1) (fun a=>a.1<=64) (fun a=>[(6,I a.1),(5,.hd 0 a.2.1)]) (fun a=>[(0,⟨a.2.1,.r tU 1 (((xorK K x).take a.1).map eB)⟩),(1,⟨a.2.2,.x⟩)]) (0,1,0) (Nat.zero_le _) (by exact Gh.W) ?_;rintro ⟨i,u,v⟩ hi;refine ST0 ?_;dsimp only at hi
 by_cases hlt:i < 64
 ·have hw:IntKind.i64.wrap ((i:Int) + 1)=((i + 1:Nat):Int):=wrap_i64 (by omega) (by omega);have d64:decide ((i:Int) < 64)=true:=by simp;omega
  have hfl:=fullS_len hK
  have hsn:((xorK K x).take i).map eB ++ [[U ((fullS K)[i] ^^^ x)]]=((xorK K x).take (i + 1)).map eB:=by
   rw [List.take_succ_eq_append_getElem (by rw [xorK_len hK];omega),List.map_append];simp [xorK]
  have hlen:(((xorK K x).take i).map eB).length + 1<=1000000000:=by simp;omega
  by_cases hki:i < K.length
  ·have dk:decide ((i:Int) < (K.length:Int))=true:=by simp;omega
   have hx:(K.map eB)[i]? = some (eB (fullS K)[i]):=by
    simp [fullS,hki,List.getElem_append_left]
   generalize (fullS K)[i]=c at *;have hx8:=xor8 c x;generalize ((xorK K x).take i).map eB=W at *
   repeat' (first|((first|refine wA8 ?_|((with_reducible apply AP.k_any);first|refine AP.E ?_)|refine wA6 ?_)<;>(try simp only [d64,dk,xor8v,nx,q4,rn,fq,Nat.mul_one,Bool.and_true,Bool.and_false,Nat.reduceBEq,Nat.reduceAdd,Nat.reduceSub,BEq.rfl]))|refine wT2 ?_|with_reducible intro Q' hQ'|(refine GC ?_ ?_<;>intro hc)|simp only [laq])
   simp only [hw];refine ⟨(i + 1,u + 1,v + 1),by (dsimp only;omega),by (dsimp only;omega),?_⟩;dsimp only;rw [←hsn];exact Gh.W
  ·have dk:decide ((i:Int) < (K.length:Int))=false:=by simp;omega
   have hx:(fullS K)[i]=0:=by
    simp [fullS,List.getElem_append_right (show K.length<=i by omega)]
   rw [hx] at hsn;have hx8:=xor8 0 x;generalize ((xorK K x).take i).map eB=W at *
   repeat' (first|((first|refine wA8 ?_|((with_reducible apply AP.k_any);first|refine AP.E ?_)|refine wA6 ?_)<;>(try simp only [d64,dk,xor8z,nx,q4,rn,fq,Nat.mul_one,Bool.and_true,Bool.and_false,Nat.reduceBEq,Nat.reduceAdd,Nat.reduceSub,BEq.rfl]))|refine wT2 ?_|with_reducible intro Q' hQ'|(refine GC ?_ ?_<;>intro hc)|simp only [laq])
   simp only [hw];refine ⟨(i + 1,u + 1,v + 1),by (dsimp only;omega),by (dsimp only;omega),?_⟩;dsimp only;rw [←hsn];exact Gh.W
 ·obtain rfl:i=64:=by omega
  have d64:decide (((64:Nat):Int) < 64)=false:=by simp
  rw [List.take_of_length_le (by rw [xorK_len hK];omega)]
  repeat' (first|((first|refine wA8 ?_|((with_reducible apply AP.k_any);first|refine AP.E ?_)|refine wA6 ?_)<;>(try simp only [d64,nx,q4,rn,fq,Nat.mul_one,Bool.and_true,Bool.and_false,Nat.reduceBEq,Nat.reduceAdd,Nat.reduceSub,BEq.rfl]))|refine wT2 ?_|with_reducible intro Q' hQ'|(refine GC ?_ ?_<;>intro hc)|simp only [laq])
  (refine RB1 ?_;(exact ⟨rfl,rfl⟩))
theorem dblock_ac (key:List UInt8) (x:UInt8) (hk:key.length<=1000000):AF 156 [bs none key,U x] (bs none (xorK (keyS key) x)):=by
 unfold keyS;split
 ·exact (dblock_ac2 key x hk (by assumption)).ro (by simp only [AV.ro,ro_B])
 ·exact (dblock_ac1 key x (by omega)).ro (by simp only [AV.ro,ro_B])
theorem tagC_map {t:List UInt8} (h:t.length=32):(tagC t).map (fun a=>[a])=t.map eB:=by
 have:(tagC t)=(List.range 32).map fun j=>U (t.getD j 0):=rfl
 rw [this,List.map_map];apply List.ext_getElem?;intro i
 by_cases hi:i < 32
 ·simp [hi,h,List.getD_eq_getElem?_getD]
 ·rw [List.getElem?_eq_none (by simp;omega),List.getElem?_eq_none (by simp;omega)]
def xst1 (k:List UInt8) (x:UInt8) (i:Nat):List UInt8:=(k.map (· ^^^ x)).take i ++ k.drop i
theorem xst1_len (k:List UInt8) (x:UInt8) (i:Nat):(xst1 k x i).length=k.length:=by simp [xst1];omega
theorem xst1_at {k:List UInt8} {x:UInt8} {i:Nat} (h:i < k.length):((xst1 k x i).map eB)[i]? = some (eB k[i]):=by
 unfold xst1;rw [List.getElem?_map,List.getElem?_append_right (by simp;omega)];simp [show i - min i k.length=0 by omega,h]
theorem xst1_set {k:List UInt8} {x:UInt8} {i:Nat} (h:i < k.length):((xst1 k x i).map eB).set i (eB (k[i] ^^^ x))=(xst1 k x (i + 1)).map eB:=by
 have hl:((k.map (· ^^^ x)).take i).length=i:=by simp;omega
 unfold xst1;rw [←List.map_set,List.set_append_right _ _ (by omega),hl,Nat.sub_self,List.drop_eq_getElem_cons h,List.set_cons_zero,List.take_succ_eq_append_getElem (by simp;omega)];simp
theorem clos_ac (k:List UInt8) (x:UInt8) (hk:k.length<=1000):AC prog 189 [U x,.bp 0 0 0] [bxB k] (fun v bs'=>v=bs (some tU) (k.map (· ^^^ x))/\bs'=[bxB k]):=by
 have h1:=wcat_ac [k] (by simp) (by simp;omega);rw [show [k].flatten=k by simp] at h1;refine AC.E func189 ntmps189 ?_;intros;refine CP.gh gh_slot ?_;refine NX ?_
 refine CP.gh gh_slot ?_;refine NX ?_
 repeat' (first|((first|refine wA8 ?_|((with_reducible apply AP.k_any);first|refine AP.E ?_|refine AP.T ?_)|refine wA6 ?_)<;>(try simp only [nx,q4,rn,fq,Nat.mul_one,Bool.and_true,Bool.and_false,Nat.reduceBEq,Nat.reduceAdd,Nat.reduceSub,BEq.rfl]))|refine wT2 ?_|with_reducible intro Q' hQ'|(refine GC ?_ ?_<;>intro hc)|simp only [laq])
 refine cp_loopS [5,11,12,13,14,15,16,17,18,19,20,21] (fun i:Nat=>k.length - i) (fun i=>i<=k.length) (fun i=>[(11,I i)]) (fun i=>[(2,⟨1,.r tU 1 ((xst1 k x i).map eB)⟩)]) 0 (Nat.zero_le _) (by exact Gh.W) ?_;intro i hi;refine ST0 ?_;have hln:=xst1_len k x i;have hln2:((xst1 k x i).map eB).length=k.length:=by simp [hln]
 by_cases hlt:i < k.length
 ·have hw:IntKind.i64.wrap ((i:Int) + 1)=((i + 1:Nat):Int):=wrap_i64 (by omega) (by omega);have d1:decide ((i:Int) < (k.length:Int))=true:=by simp;omega
  have hset:=xst1_set (x:=x) hlt;have hat:=xst1_at (x:=x) hlt;generalize k[i]=c at *;generalize (xst1 k x i).map eB=W at *
  repeat' (first|((first|refine wA8 ?_|((with_reducible apply AP.k_any);first|refine AP.E ?_|refine AP.T ?_)|refine wA6 ?_)<;>(try simp only [d1,xor8v,nx,q4,rn,fq,Nat.mul_one,Bool.and_true,Bool.and_false,Nat.reduceBEq,Nat.reduceAdd,Nat.reduceSub,BEq.rfl]))|refine wT2 ?_|with_reducible intro Q' hQ'|(refine GC ?_ ?_<;>intro hc)|simp only [laq])
  simp only [hw];exact ⟨i + 1,by omega,by omega,by (rw [←hset];exact Gh.W)⟩
 ·obtain rfl:i=k.length:=by omega
  have d1:decide ((k.length:Int) < (k.length:Int))=false:=by simp
  have he:xst1 k x k.length=k.map (· ^^^ x):=by
   unfold xst1;rw [List.drop_length,List.append_nil,List.take_of_length_le (by simp)]
  rw [he]
  repeat' (first|((first|refine wA8 ?_|((with_reducible apply AP.k_any);first|refine AP.E ?_|refine AP.T ?_)|refine wA6 ?_)<;>(try simp only [d1,nx,q4,rn,fq,Nat.mul_one,Bool.and_true,Bool.and_false,Nat.reduceBEq,Nat.reduceAdd,Nat.reduceSub,BEq.rfl]))|refine wT2 ?_|with_reducible intro Q' hQ'|(refine GC ?_ ?_<;>intro hc)|simp only [laq])
  (refine RetQ.B [(0,0)] ?_;(try dsimp only [resV,List.getD_cons_succ,List.getD_cons_zero]);(exact ⟨rfl,rfl⟩))
theorem wcat2_ac (a b:List UInt8) (h:a.length + b.length<=10000000):AF 74 [bss none [a,b]] (bs none (a ++ b)):=by
 have h1:=(wcat_ac [a,b] (by simp) (by simp;omega)).ro (r2:=bs none (a ++ b)) (by simp only [AV.ro,List.flatten_cons,List.flatten_nil,List.append_nil,ro_B]);exact h1
theorem hblocks1_ac (K:List UInt8) (hK:K.length<=64):AC prog 162 [bs none K] [] (fun v bs'=>v=.fn 189 [.bp 0 0 0]/\bs'=[bxB (fullS K)]):=by
 have d0:decide ((64:Int) < (K.length:Int))=false:=by simp;omega
 have hw:IntKind.i64.wrap (64 - (K.length:Int))=((64 - K.length:Nat):Int):=by rw [wrap_i64 (by omega) (by omega)];omega
 have h1:=wcat2_ac K (List.replicate (64 - K.length) 0) (by simp;omega);rw [show K ++ List.replicate (64 - K.length) 0=fullS K from rfl] at h1;generalize fullS K=L at *;refine AC.E func162 ntmps162 ?_;intros;refine CP.gh gh_slot ?_;refine NX ?_
 refine CP.gh gh_slot ?_;refine NX ?_
 refine CP.gh gh_slot ?_;refine NX ?_
 repeat' (first|((first|refine wA8 ?_|((with_reducible apply AP.k_any);refine ap_makeS rfl rfl rfl rfl rfl rfl rfl rfl rfl rfl rfl (by omega) ?_)|refine wA6 ?_)<;>(try simp only [d0,mk0,hw,nx,q4,rn,fq,Nat.mul_one,Bool.and_true,Bool.and_false,Nat.reduceBEq,Nat.reduceAdd,Nat.reduceSub,BEq.rfl]))|refine wT2 ?_|with_reducible intro Q' hQ'|(refine GC ?_ ?_<;>intro hc)|simp only [laq])
 (exact RetQ.A [(0,3)] (by exact ⟨rfl,rfl⟩))
theorem hblocks2_ac (key:List UInt8) (hk:key.length<=1000000) (h64:64 < key.length):AC prog 162 [bs none key] [] (fun v bs'=>v=.fn 189 [.bp 0 0 0]/\bs'=[bxB (fullS (shaS key))]):=by
 have d0:decide ((64:Int) < (key.length:Int))=true:=by simp;omega
 have h0:=sha_ac key hk;have hK:=shaS_len key;have htm:=tagC_map hK;generalize shaS key=K at *;have hw:IntKind.i64.wrap (64 - (K.length:Int))=((64 - K.length:Nat):Int):=by rw [wrap_i64 (by omega) (by omega)];omega
 have h1:=wcat2_ac K (List.replicate (64 - K.length) 0) (by simp;omega);rw [show K ++ List.replicate (64 - K.length) 0=fullS K from rfl] at h1;generalize fullS K=L at *;refine AC.E func162 ntmps162 ?_;intros;refine CP.gh gh_slot ?_;refine NX ?_
 refine CP.gh gh_slot ?_;refine NX ?_
 refine CP.gh gh_slot ?_;refine NX ?_
 refine CP.gh gh_slot ?_;refine NX ?_
 repeat' (first|((first|refine wA8 ?_|((with_reducible apply AP.k_any);refine ap_makeS rfl rfl rfl rfl rfl rfl rfl rfl rfl rfl rfl (by omega) ?_)|refine wA6 ?_)<;>(try simp only [d0,mk0,hw,htm,nx,q4,rn,fq,Nat.mul_one,Bool.and_true,Bool.and_false,Nat.reduceBEq,Nat.reduceAdd,Nat.reduceSub,BEq.rfl]))|refine wT2 ?_|with_reducible intro Q' hQ'|(refine GC ?_ ?_<;>intro hc)|simp only [laq])
 (exact RetQ.A [(0,4)] (by exact ⟨rfl,rfl⟩))
theorem hblocks_ac (key:List UInt8) (hk:key.length<=1000000):AC prog 162 [bs none key] [] (fun v bs'=>v=.fn 189 [.bp 0 0 0]/\bs'=[bxB (fullS (keyS key))]):=by
 unfold keyS;split
 ·exact hblocks2_ac key hk (by assumption)
 ·exact hblocks1_ac key (by omega)
theorem dhmac_ac (key b:List UInt8) (hk:key.length<=1000000) (hb:b.length<=900000):AF 87 [bs none key,bs none b] (tg (hmacS key b)):=by
 have hkl:=keyS_len key;have hl1:=xorK_len hkl 0x36;have hl2:=xorK_len hkl 0x5c;have h1:=dblock_ac key 0x36 hk;have h2:=dblock_ac key 0x5c hk;unfold hmacS;generalize xorK (keyS key) 0x36=k1 at *;generalize xorK (keyS key) 0x5c=k2 at *;have h3:=(cat_ac k1 b (by omega) (by omega)).ro (r2:=bs none (k1 ++ b)) (by simp only [AV.ro,ro_B]);have h4:=dsha_ac (k1 ++ b) (by simp;omega);have hs:=shaS_len (k1 ++ b);have h5:=(dbytes03_ac (shaS (k1 ++ b)) hs).ro (r2:=bs none (shaS (k1 ++ b))) (by simp only [AV.ro,ro_B]);generalize shaS (k1 ++ b)=t at *;have h6:=(cat_ac k2 t (by omega) (by omega)).ro (r2:=bs none (k2 ++ t)) (by simp only [AV.ro,ro_B]);have h7:=dsha_ac (k2 ++ t) (by simp;omega);generalize shaS (k2 ++ t)=t2 at *;refine AC.E func87 ntmps87 ?_;intros
 repeat' (first|((first|refine wA8 ?_|refine aC1 h1 ?_|refine aC1 h2 ?_|refine aC1 h3 ?_|refine aC1 h4 ?_|refine aC1 h5 ?_|refine aC1 h6 ?_|refine aC1 h7 ?_|refine wA6 ?_|refine wD2 ?_|refine dC1 h1 ?_|refine dC1 h2 ?_|refine dC1 h3 ?_|refine dC1 h4 ?_|refine dC1 h5 ?_|refine dC1 h6 ?_|refine dC1 h7 ?_)<;>(try simp only [nx,q4,rn,fq,Nat.mul_one,Bool.and_true,Bool.and_false,Nat.reduceBEq,Nat.reduceAdd,Nat.reduceSub,BEq.rfl]))|refine wT5 ?_|with_reducible intro Q' hQ'|(refine GC ?_ ?_<;>intro hc)|simp only [laq])
 exact RA0
theorem wcatO_ac (ls:List (List UInt8)) (hl:ls.length<=100000000) (hf:ls.flatten.length<=100000000) :
 AF 74 [bss (some tB) ls] (bs (some tU) ls.flatten):=by
 refine AC.E func74 ntmps74 ?_;intros;refine CP.gh (gh_fzS (b:=0) rfl) ?_;simp only [ro_S,nx,q4,rn,fq,Nat.mul_one,Bool.and_true,Bool.and_false,Nat.reduceBEq,Nat.reduceAdd,Nat.reduceSub,BEq.rfl]
 repeat' (first|((first|refine wA2 ?_|((with_reducible apply AP.k_any);first|refine AP.E ?_))<;>try refine NX ?_)|refine wT2 ?_|with_reducible intro Q' hQ'|(refine GC ?_ ?_<;>intro hc)|simp only [laq])
 refine CP.gh (gh_nil (t:=3) (e:=tU) (k:=1) rfl) ?_;refine NX ?_;refine cp_loopS [3,5,8,9,10,11,12,13,14,15] (fun a:Nat×Nat=>ls.length - a.1) (fun a=>a.1<=ls.length) (fun a=>[(8,I a.1),(3,.hd 0 a.2)]) (fun a=>[(0,⟨a.2,.r tU 1 ((ls.take a.1).flatten.map eB)⟩)]) (0,2) (Nat.zero_le _) (by exact Gh.W) ?_;rintro ⟨k,u⟩ hk;refine ST0 ?_;dsimp only at hk
 by_cases hlt:k < ls.length
 ·have hw:IntKind.i64.wrap ((k:Int) + 1)=((k + 1:Nat):Int):=wrap_i64 (by omega) (by omega)
  have hlen:(ls.take k).flatten.length + ls[k].length<=100000000:=by
   have h1:(ls.take k).flatten ++ ls[k]=(ls.take (k + 1)).flatten:=by rw [List.take_succ_eq_append_getElem hlt,List.flatten_append,List.flatten_cons,List.flatten_nil,List.append_nil]
   have h2:(ls.take (k + 1)).flatten ++ (ls.drop (k + 1)).flatten=ls.flatten:=by rw [←List.flatten_append,List.take_append_drop]
   have h3:=congrArg List.length h1;have h4:=congrArg List.length h2;simp only [List.length_append] at h3 h4;omega
  have hlen2:((ls.take k).flatten.map eB).length + (ls[k].map eB).length<=1000000000:=by rw [List.length_map,List.length_map];omega
  repeat' (first|((first|refine wA2 ?_|((with_reducible apply AP.k_any);first|refine AP.E ?_))<;>try refine NX ?_)|refine wT2 ?_|with_reducible intro Q' hQ'|(refine GC ?_ ?_<;>intro hc)|simp only [laq])
  ·simp only [hw];refine ⟨(k + 1,u + 1),by (dsimp only;omega),by (dsimp only;omega),?_⟩;have h1:(ls.take (k + 1)).flatten.map eB=(ls.take k).flatten.map eB ++ ls[k].map eB:=by rw [List.take_succ_eq_append_getElem hlt,List.flatten_append,List.flatten_cons,List.flatten_nil,List.append_nil,List.map_append]
   simp only [h1];exact Gh.W
  ·exfalso;simp at *;omega
 ·obtain rfl:k=ls.length:=by omega
  rw [List.take_length]
  repeat' (first|((first|refine wA2 ?_|((with_reducible apply AP.k_any);first|refine AP.E ?_))<;>try refine NX ?_)|refine wT2 ?_|with_reducible intro Q' hQ'|(refine GC ?_ ?_<;>intro hc)|simp only [laq])
  all_goals first
   | (exfalso;simp at *;done)
   | (exfalso;simp at *;omega)
   | (refine RB1 ?_;(exact ⟨rfl,rfl⟩))
theorem wcat2O_ac (a b:List UInt8) (h:a.length + b.length<=10000000):AF 74 [bss (some tB) [a,b]] (bs none (a ++ b)):=by
 have h1:=(wcatO_ac [a,b] (by simp) (by simp;omega)).ro (r2:=bs none (a ++ b)) (by simp only [AV.ro,List.flatten_cons,List.flatten_nil,List.append_nil,ro_B]);exact h1
theorem aC3 {p G G':Prop} (c:p) (K:G') (h:p->G'->G:=by (intro c kz;(with_reducible apply AP.k_any);exact AP.B 1 c kz)):G:=h c K
theorem aC4 {p G G':Prop} (c:p) (K:G') (h:p->G'->G:=by (intro c kz;(with_reducible apply AP.k_any);exact AP.B 0 c kz)):G:=h c K
theorem dC2 {p G G':Prop} (c:p) (K:G') (h:p->G'->G:=by (intro c kz;(with_reducible apply DW.k_any);refine DW.known rfl ?_;(with_reducible first|apply DW.sx 2);(iterate 2 (focus (simp only [ft,nm,Nat.reduceAdd,Nat.reduceBEq,List.getElem?_cons_zero,List.getElem?_cons_succ];exact rfl)));(focus (intro X V;simp only [ft,nm,Nat.reduceAdd,Nat.reduceBEq];(try (refine AP.Y ?_;dsimp only));((with_reducible apply AP.k_any);refine AP.B 1 c ?_);(try refine NX ?_);refine AP.nil ?_;(first|refine ⟨trivial,rfl,?_⟩|refine ⟨rfl,rfl,?_⟩);(repeat' (first|exact Mg.nil|apply Mg.keep rfl|apply Mg.take rfl));done));(focus (refine Exists.intro (fun _=>0) ?_;apply Exists.intro;(repeat' (first|exact Mg.nil|apply Mg.keep rfl|apply Mg.take rfl));done));(iterate 2 (focus (exact rfl)));exact kz)):G:=h c K
theorem dC3 {p G G':Prop} (c:p) (K:G') (h:p->G'->G:=by (intro c kz;(with_reducible apply DW.k_any);refine DW.known rfl ?_;(with_reducible first|apply DW.sx 2);(iterate 2 (focus (simp only [ft,nm,Nat.reduceAdd,Nat.reduceBEq,List.getElem?_cons_zero,List.getElem?_cons_succ];exact rfl)));(focus (intro X V;simp only [ft,nm,Nat.reduceAdd,Nat.reduceBEq];(try (refine AP.Y ?_;dsimp only));((with_reducible apply AP.k_any);refine AP.B 0 c ?_);(try refine NX ?_);refine AP.nil ?_;(first|refine ⟨trivial,rfl,?_⟩|refine ⟨rfl,rfl,?_⟩);(repeat' (first|exact Mg.nil|apply Mg.keep rfl|apply Mg.take rfl));done));(focus (refine Exists.intro (fun _=>0) ?_;apply Exists.intro;(repeat' (first|exact Mg.nil|apply Mg.keep rfl|apply Mg.take rfl));done));(iterate 2 (focus (exact rfl)));exact kz)):G:=h c K
theorem wD5 {G G':Prop} (K:G') (h:G'->G:=by (intro kz;(with_reducible apply DW.k_any);first|exact DW.R kz|exact DW.R' kz|exact DW.W kz|exact DW.W' kz|exact DW.RA kz|exact DW.A 0 kz|exact DW.A 1 kz|exact DW.A 2 kz|exact DW.WX kz|exact DW.RX kz|exact DW.WX' kz|exact DW.R kz|exact DW.R' kz|exact DW.W kz|exact DW.W' kz)):G:=h K
theorem hmac_ac (key b:List UInt8) (hk:key.length<=1000000) (hb:b.length<=900000):AF 96 [bs none key,bs none b] (tg (hmacS key b)):=by
 have hkl:=keyS_len key;have hfl:=fullS_len hkl;have h0:=hblocks_ac key hk;have h1:=AC.ro (clos_ac (fullS (keyS key)) 0x36 (by omega)) (r2:=bs none (xorK (keyS key) 0x36)) (by simp only [AV.ro,ro_B];rfl);have h2:=AC.ro (clos_ac (fullS (keyS key)) 0x5c (by omega)) (r2:=bs none (xorK (keyS key) 0x5c)) (by simp only [AV.ro,ro_B];rfl);have hl1:=xorK_len hkl 0x36;have hl2:=xorK_len hkl 0x5c;unfold hmacS;generalize xorK (keyS key) 0x36=k1 at *;generalize xorK (keyS key) 0x5c=k2 at *;generalize fullS (keyS key)=L at *;have h3:=wcat2_ac k1 b (by omega);have h4:=sha_ac (k1 ++ b) (by simp;omega);have hs:=shaS_len (k1 ++ b);generalize shaS (k1 ++ b)=t at *;have htm:=tagC_map hs;simp only [tagC,List.map_cons,List.map_nil] at htm;have h6:=wcat2_ac k2 t (by omega);have h8:=wcat2O_ac k2 t (by omega);have h7:=sha_ac (k2 ++ t) (by simp;omega);generalize shaS (k2 ++ t)=t2 at *;refine AC.E func96 ntmps96 ?_;intros;refine CP.gh gh_slot ?_;refine NX ?_
 refine CP.gh gh_slot ?_;refine NX ?_
 refine CP.gh gh_slot ?_;refine NX ?_
 refine CP.gh gh_slot ?_;refine NX ?_
 repeat' (first|((first|refine wA8 ?_|refine aC3 h0 ?_|refine aC4 h1 ?_|refine aC4 h2 ?_|refine aC1 h3 ?_|refine aC1 h4 ?_|refine aC1 h6 ?_|refine aC1 h7 ?_|refine aC1 h8 ?_|refine wA6 ?_|refine wD5 ?_|refine dC2 h0 ?_|refine dC3 h1 ?_|refine dC3 h2 ?_|refine dC1 h3 ?_|refine dC1 h4 ?_|refine dC1 h6 ?_|refine dC1 h7 ?_|refine dC1 h8 ?_)<;>(try simp only [htm,nx,q4,rn,fq,Nat.mul_one,Bool.and_true,Bool.and_false,Nat.reduceBEq,Nat.reduceAdd,Nat.reduceSub,BEq.rfl]))|refine wT5 ?_|with_reducible intro Q' hQ'|(refine GC ?_ ?_<;>intro hc)|simp only [laq])
 exact RA0
theorem hsame_ac (a b:List UInt8) (ha:a.length=32) (hb:b.length=32):AF 48 [tg a,tg b] (B (decide (a=b))):=by
 have h1:=wsame_ac a b (by omega);have hma:=tagC_map ha;have hmb:=tagC_map hb;simp only [tagC,List.map_cons,List.map_nil] at hma hmb;refine AC.E func48 ntmps48 ?_;intros;refine CP.gh gh_slot ?_;refine NX ?_
 repeat' (first|((first|refine wA8 ?_|refine wA6 ?_|refine wD5 ?_)<;>(try simp only [hma,hmb,nx,q4,rn,fq,Nat.mul_one,Bool.and_true,Bool.and_false,Nat.reduceBEq,Nat.reduceAdd,Nat.reduceSub,BEq.rfl]))|refine wT5 ?_|with_reducible intro Q' hQ'|(refine GC ?_ ?_<;>intro hc)|simp only [laq])
 exact RA0
def formS (s:ByteArray) (l:List Int):List UInt8:=s.data.toList ++ [0] ++ numS l
def deriveS (key:List UInt8) (s:ByteArray) (l:List Int):List UInt8:=hmacS key (formS s l)
theorem hmacS_len (key b:List UInt8):(hmacS key b).length=32:=rfl
theorem formS_take (s:ByteArray) (l:List Int) {i:Nat} (h:i < l.length):formS s (l.take (i + 1))=formS s (l.take i) ++ intS l[i]:=by
 rw [formS,List.take_succ_eq_append_getElem h,numS_snoc,←List.append_assoc];rfl
theorem formS_len (s:ByteArray) (l:List Int):(formS s l).length=s.size + 1 + 8 * l.length:=by
 have:s.data.toList.length=s.size:=by simp
 simp only [formS,List.length_append,numS_length,this];rfl
theorem wA14 {G G':Prop} (K:G') (h:G'->G:=by (intro kz;(with_reducible apply AP.k_any);first|exact AP.S kz|exact AP.A kz|exact AP.AB 0 kz|exact AP.AB 1 kz|exact AP.AL kz|exact AP.LB kz|exact AP.TB kz|exact AP.IX kz|exact AP.SF kz|exact AP.SV kz|exact AP.CV kz|exact AP.CO kz|exact AP.FV kz|exact AP.CS kz)):G:=h K
theorem hderive_ac (key:List UInt8) (s:ByteArray) (l:List Int) (hk:key.length<=100000) (hs:s.size<=1000) (hl:l.length<=1000):AF 50 [bs none key,.sc (.string s),.sl none 1 (l.map eI)] (bs none (deriveS key s l)):=by
 have hsl:s.data.toList.length=s.size:=by simp
 have h1:=wcat2_ac s.data.toList [0] (by simp;omega);rw [show s.data.toList ++ [0]=formS s (l.take 0) by simp [formS,numS]] at h1;have hfl:=formS_len s l;have h5:=hmac_ac key (formS s l) (by omega) (by omega);have htl:=hmacS_len key (formS s l);have htm:=tagC_map htl;unfold deriveS;generalize hmacS key (formS s l)=t at *;refine AC.E func50 ntmps50 ?_;intros;refine CP.gh gh_slot ?_;refine NX ?_
 refine CP.gh gh_slot ?_;refine NX ?_
 refine CP.gh gh_slot ?_;refine NX ?_
 refine CP.gh gh_slot ?_;refine NX ?_
 repeat' (first|((first|refine wA14 ?_|((with_reducible apply AP.k_any);first|refine AP.E ?_|refine AP.T ?_)|refine aC1 h1 ?_|refine wA6 ?_)<;>(try simp only [nx,q4,rn,fq,Nat.mul_one,Bool.and_true,Bool.and_false,Nat.reduceBEq,Nat.reduceAdd,Nat.reduceSub,BEq.rfl]))|refine wT2 ?_|with_reducible intro Q' hQ'|(refine GC ?_ ?_<;>intro hc)|simp only [laq])
 refine cp_loopS [7,9,18,19,20,21,22,23,24,25,26,27,28] (fun a:Nat×Nat=>l.length - a.1) (fun a=>a.1<=l.length) (fun a=>[(18,I a.1),(7,bs none (formS s (l.take a.1))),(12,.de),(13,.de)]) (fun a=>[(0,⟨a.2,.x⟩)]) (0,2) (Nat.zero_le _) (by exact Gh.W) ?_;clear h1;rintro ⟨i,v⟩ hi;refine ST0 ?_;dsimp only at hi
 by_cases hlt:i < l.length
 ·have hw:IntKind.i64.wrap ((i:Int) + 1)=((i + 1:Nat):Int):=wrap_i64 (by omega) (by omega);have d1:decide ((i:Int) < (l.length:Int))=true:=by simp;omega
  have hx:(l.map eI)[i]? = some (eI l[i]):=by simp [hlt]
  have hft:=formS_take s l hlt;have hln:=formS_len s (l.take i);rw [List.length_take] at hln;have h3:=put64_ac (IntKind.u64.wrap l[i]).toNat;rw [←u64_nn] at h3;have hil:(intS l[i]).length=8:=intS_length _;rw [show putS (IntKind.u64.wrap l[i]).toNat 8=intS l[i] from rfl] at h3;generalize l[i]=n at *;generalize intS n=z at *;have h4:=wcat2_ac (formS s (l.take i)) z (by omega);rw [←hft] at h4;generalize formS s (l.take i)=F at *
  repeat' (first|((first|refine wA8 ?_|((with_reducible apply AP.k_any);first|refine AP.E ?_|refine AP.T ?_)|refine aC1 h3 ?_|refine aC1 h4 ?_|refine wA6 ?_)<;>(try simp only [d1,nx,q4,rn,fq,Nat.mul_one,Bool.and_true,Bool.and_false,Nat.reduceBEq,Nat.reduceAdd,Nat.reduceSub,BEq.rfl]))|refine wT2 ?_|with_reducible intro Q' hQ'|(refine GC ?_ ?_<;>intro hc)|simp only [laq])
  simp only [hw];exact ⟨(i + 1,v + 1),by (dsimp only;omega),by (dsimp only;omega),by (dsimp only;exact Gh.W)⟩
 ·obtain rfl:i=l.length:=by omega
  have d1:decide ((l.length:Int) < (l.length:Int))=false:=by simp
  rw [List.take_of_length_le (Nat.le_refl _)];generalize formS s l=F at *
  repeat' (first|((first|refine wA8 ?_|((with_reducible apply AP.k_any);first|refine AP.E ?_|refine AP.T ?_)|refine wA6 ?_)<;>(try simp only [d1,htm,nx,q4,rn,fq,Nat.mul_one,Bool.and_true,Bool.and_false,Nat.reduceBEq,Nat.reduceAdd,Nat.reduceSub,BEq.rfl]))|refine wT2 ?_|with_reducible intro Q' hQ'|(refine GC ?_ ?_<;>intro hc)|simp only [laq])
  exact RA0
theorem dform_ac (s:ByteArray) (l:List Int) (hs:s.size<=1000) (hl:l.length<=1000):AF 158 [.sc (.string s),.sl none 1 (l.map eI)] (bs none (formS s l)):=by
 have hsl:s.data.toList.length=s.size:=by simp
 have hlen:(s.data.toList.map eB).length + 1<=1000000000:=by simp;omega
 have e0:roE (s.data.toList.map eB ++ [[AV.sc (.int .u8 0)]])=(formS s (l.take 0)).map eB:=by
  rw [show s.data.toList.map eB ++ [[AV.sc (.int .u8 0)]]=(formS s (l.take 0)).map eB by simp [formS,numS],ro_B]
 refine AC.E func158 ntmps158 ?_;intros;refine CP.gh gh_slot ?_;refine NX ?_
 repeat' (first|((first|refine wA14 ?_|((with_reducible apply AP.k_any);first|refine AP.E ?_)|refine wA6 ?_)<;>(try simp only [nx,q4,rn,fq,Nat.mul_one,Bool.and_true,Bool.and_false,Nat.reduceBEq,Nat.reduceAdd,Nat.reduceSub,BEq.rfl]))|refine wT2 ?_|with_reducible intro Q' hQ'|(refine GC ?_ ?_<;>intro hc)|simp only [laq])
 refine CP.gh (gh_fzS (b:=0) rfl) ?_;simp only [e0,nx,q4,rn,fq,Nat.mul_one,Bool.and_true,Bool.and_false,Nat.reduceBEq,Nat.reduceAdd,Nat.reduceSub,BEq.rfl];refine cp_loopS [5,6,12,13,14,15,16,17,18,19,20,21,22,23,24,25] (fun i:Nat=>l.length - i) (fun i=>i<=l.length) (fun i=>[(6,I i),(5,bs none (formS s (l.take i)))]) (fun _=>[]) 0 (Nat.zero_le _) (by exact Gh.W) ?_;intro i hi;refine ST0 ?_
 by_cases hlt:i < l.length
 ·have hw:IntKind.i64.wrap ((i:Int) + 1)=((i + 1:Nat):Int):=wrap_i64 (by omega) (by omega);have d1:decide ((i:Int) < (l.length:Int))=true:=by simp;omega
  have hx:(l.map eI)[i]? = some (eI l[i]):=by simp [hlt]
  have hft:=formS_take s l hlt;have hln:=formS_len s (l.take i);rw [List.length_take] at hln;have h3:=(rput_ac (IntKind.u64.wrap l[i]).toNat 8 (by omega) (wrap_u64_lt l[i])).ro (r2:=bs none (intS l[i])) (by simp only [AV.ro,ro_B];rfl);rw [←u64_nn] at h3;have hil:(intS l[i]).length=8:=intS_length _;generalize l[i]=n at *;generalize intS n=z at *;have h4:=(cat_ac (formS s (l.take i)) z (by omega) (by omega)).ro (r2:=bs none (formS s (l.take i) ++ z)) (by simp only [AV.ro,ro_B]);rw [←hft] at h4;generalize formS s (l.take i)=F at *
  repeat' (first|((first|refine wA8 ?_|((with_reducible apply AP.k_any);first|refine AP.E ?_)|refine aC1 h3 ?_|refine aC1 h4 ?_|refine wA6 ?_)<;>(try simp only [d1,nx,q4,rn,fq,Nat.mul_one,Bool.and_true,Bool.and_false,Nat.reduceBEq,Nat.reduceAdd,Nat.reduceSub,BEq.rfl]))|refine wT2 ?_|with_reducible intro Q' hQ'|(refine GC ?_ ?_<;>intro hc)|simp only [laq])
  simp only [hw];exact ⟨i + 1,by omega,by omega,by exact Gh.W⟩
 ·obtain rfl:i=l.length:=by omega
  have d1:decide ((l.length:Int) < (l.length:Int))=false:=by simp
  rw [List.take_of_length_le (Nat.le_refl _)];generalize formS s l=F at *
  repeat' (first|((first|refine wA8 ?_|((with_reducible apply AP.k_any);first|refine AP.E ?_)|refine wA6 ?_)<;>(try simp only [d1,nx,q4,rn,fq,Nat.mul_one,Bool.and_true,Bool.and_false,Nat.reduceBEq,Nat.reduceAdd,Nat.reduceSub,BEq.rfl]))|refine wT2 ?_|with_reducible intro Q' hQ'|(refine GC ?_ ?_<;>intro hc)|simp only [laq])
  exact RA0
theorem dderive_ac (key:List UInt8) (s:ByteArray) (l:List Int) (hk:key.length<=100000) (hs:s.size<=1000) (hl:l.length<=1000):AF 90 [bs none key,.sc (.string s),.sl none 1 (l.map eI)] (bs none (deriveS key s l)):=by
 have h1:=dform_ac s l hs hl;have hfl:=formS_len s l;have h5:=dhmac_ac key (formS s l) (by omega) (by omega);have h6:=(dbytes03_ac (hmacS key (formS s l)) (hmacS_len _ _)).ro (r2:=bs none (hmacS key (formS s l))) (by simp only [AV.ro,ro_B]);unfold deriveS;generalize hmacS key (formS s l)=t at *;generalize formS s l=F at *;refine AC.E func90 ntmps90 ?_;intros
 repeat' (first|((first|refine wA8 ?_|refine wA6 ?_)<;>(try simp only [nx,q4,rn,fq,Nat.mul_one,Bool.and_true,Bool.and_false,Nat.reduceBEq,Nat.reduceAdd,Nat.reduceSub,BEq.rfl]))|refine wT2 ?_|with_reducible intro Q' hQ'|(refine GC ?_ ?_<;>intro hc)|simp only [laq])
 exact RA0
