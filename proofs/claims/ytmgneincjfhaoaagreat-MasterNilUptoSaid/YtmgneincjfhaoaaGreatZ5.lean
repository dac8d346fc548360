/-
  Texts joined: H3, H4, H5, Lk1, H6, H7, H8, H9, Q4, Q5, Q6, W12, W13, V7, V8, Lk2, Lk3, Lk4, Q7, Q8, Q9, Le1, W6, W7, M1.
-/
import Derived.Test.YtmgneincjfhaoaaGreatZ1
import Derived.Test.YtmgneincjfhaoaaGreatZ2
import Derived.Test.YtmgneincjfhaoaaGreatZ3
import Derived.Test.YtmgneincjfhaoaaGreatZ4
namespace Go.Proofs.YtmgneincjfhaoaaGreat
set_option linter.unusedVariables false
set_option linter.unusedSimpArgs false
set_option maxHeartbeats 8000000
open Go.RowKit
set_option maxRecDepth 100000
theorem tagC_map {t:List UInt8} (h:t.length=32):(tagC t).map (fun a=>[a])=t.map eB:=by
  have:(tagC t)=(List.range 32).map fun j=>U (t.getD j 0):=rfl
  rw [this,List.map_map]
  apply List.ext_getElem?
  intro i
  by_cases hi:i < 32
  · simp [hi,h,List.getD_eq_getElem?_getD]
  · rw [List.getElem?_eq_none (by simp;omega),List.getElem?_eq_none (by simp;omega)]
def xst1 (k:List UInt8) (x:UInt8) (i:Nat):List UInt8:=(k.map (· ^^^ x)).take i ++ k.drop i
theorem xst1_len (k:List UInt8) (x:UInt8) (i:Nat):(xst1 k x i).length=k.length:=by simp [xst1];omega
theorem xst1_at {k:List UInt8} {x:UInt8} {i:Nat} (h:i < k.length):((xst1 k x i).map eB)[i]? = some (eB k[i]):=by
  unfold xst1
  rw [List.getElem?_map,List.getElem?_append_right (by simp;omega)]
  simp [show i - min i k.length=0 by omega,h]
theorem xst1_set {k:List UInt8} {x:UInt8} {i:Nat} (h:i < k.length):((xst1 k x i).map eB).set i (eB (k[i] ^^^ x))=(xst1 k x (i + 1)).map eB:=by
  have hl:((k.map (· ^^^ x)).take i).length=i:=by simp;omega
  unfold xst1
  rw [←List.map_set,List.set_append_right _ _ (by omega),hl,Nat.sub_self,List.drop_eq_getElem_cons h,List.set_cons_zero,List.take_succ_eq_append_getElem (by simp;omega)]
  simp
theorem clos_ac (k:List UInt8) (x:UInt8) (hk:k.length≤1000):AC Tryz.prog 213 [U x,.bp 0 0 0] [bxB k] (fun v bs'=>v=bs (some tU) (k.map (· ^^^ x))∧bs'=[bxB k]):=by
  have h1:=wcat_ac [k] (by simp) (by simp;omega)
  rw [show [k].flatten=k by simp] at h1
  refine AC.N Tryz.func213 Tryz.ntmps213 ?_
  intro X hρ hmks
  simp only [nx,Nat.reduceAdd,Nat.reduceSub,BEq.rfl]
  refine CP.gh gh_slot ?_;simp only [nx,Nat.reduceAdd,Nat.reduceSub,BEq.rfl]
  refine CP.gh gh_slot ?_;simp only [nx,Nat.reduceAdd,Nat.reduceSub,BEq.rfl]
  repeat' (first|((first|((with_reducible apply AP.k_any);first|refine AP.S ?_|refine AP.E ?_|refine AP.T ?_|refine AP.A ?_|refine AP.AB 0 ?_|refine AP.AB 1 ?_|refine AP.AL ?_|refine AP.LB ?_|refine AP.TB ?_|refine AP.IX ?_|refine AP.SF ?_|refine AP.SV ?_|refine AP.CV ?_|refine AP.CO ?_|refine AP.FV ?_|refine AP.PF ?_))<;>(try simp only [nx,q4,rn,fq,Nat.mul_one,Bool.and_true,Bool.and_false,Nat.reduceBEq,Nat.reduceAdd,Nat.reduceSub,BEq.rfl]))|((with_reducible apply AP.k_nil);first|(refine AP.nil (hQ' _ ?_);clear hQ' Q')|refine AP.nil ?_)|((with_reducible apply CP.k_reg);refine cp_regG fun Q' hQ'=>?_)|refine CP.W ?_|refine cp_cond rfl (fun hc=>?_) (fun hc=>?_)|(simp only [List.append_eq,List.cons_append,List.nil_append]))
  refine cp_loopS [5,11,12,13,14,15,16,17,18,19,20,21] (fun i:Nat=>k.length - i) (fun i=>i≤k.length) (fun i=>[(11,I i)]) (fun i=>[(2,⟨1,.r tU 1 ((xst1 k x i).map eB)⟩)]) 0 (Nat.zero_le _) (by exact Gh.W) ?_
  intro i hi
  simp only [setT,deT,setB,List.set_cons_succ,List.set_cons_zero]
  have hln:=xst1_len k x i
  have hln2:((xst1 k x i).map eB).length=k.length:=by simp [hln]
  by_cases hlt:i < k.length
  · have hw:IntKind.i64.wrap ((i:Int) + 1)=((i + 1:Nat):Int):=wrap_i64 (by omega) (by omega)
    have d1:decide ((i:Int) < (k.length:Int))=true:=by simp;omega
    have hset:=xst1_set (x:=x) hlt
    have hat:=xst1_at (x:=x) hlt
    generalize k[i]=c at *
    generalize (xst1 k x i).map eB=W at *
    repeat' (first|((first|((with_reducible apply AP.k_any);first|refine AP.S ?_|refine AP.E ?_|refine AP.T ?_|refine AP.A ?_|refine AP.AB 0 ?_|refine AP.AB 1 ?_|refine AP.AL ?_|refine AP.LB ?_|refine AP.TB ?_|refine AP.IX ?_|refine AP.SF ?_|refine AP.SV ?_|refine AP.CV ?_|refine AP.CO ?_|refine AP.FV ?_|refine AP.PF ?_))<;>(try simp only [d1,xor8v,nx,q4,rn,fq,Nat.mul_one,Bool.and_true,Bool.and_false,Nat.reduceBEq,Nat.reduceAdd,Nat.reduceSub,BEq.rfl]))|((with_reducible apply AP.k_nil);first|(refine AP.nil (hQ' _ ?_);clear hQ' Q')|refine AP.nil ?_)|((with_reducible apply CP.k_reg);refine cp_regG fun Q' hQ'=>?_)|refine CP.W ?_|refine cp_cond rfl (fun hc=>?_) (fun hc=>?_)|(simp only [List.append_eq,List.cons_append,List.nil_append]))
    simp only [hw]
    exact ⟨i + 1,by omega,by omega,by (rw [←hset];exact Gh.W)⟩
  · obtain rfl:i=k.length:=by omega
    have d1:decide ((k.length:Int) < (k.length:Int))=false:=by simp
    have he:xst1 k x k.length=k.map (· ^^^ x):=by
      unfold xst1;rw [List.drop_length,List.append_nil,List.take_of_length_le (by simp)]
    rw [he]
    repeat' (first|((first|((with_reducible apply AP.k_any);first|refine AP.S ?_|refine AP.E ?_|refine AP.T ?_|refine AP.A ?_|refine AP.AB 0 ?_|refine AP.AB 1 ?_|refine AP.AL ?_|refine AP.LB ?_|refine AP.TB ?_|refine AP.IX ?_|refine AP.SF ?_|refine AP.SV ?_|refine AP.CV ?_|refine AP.CO ?_|refine AP.FV ?_|refine AP.PF ?_))<;>(try simp only [d1,nx,q4,rn,fq,Nat.mul_one,Bool.and_true,Bool.and_false,Nat.reduceBEq,Nat.reduceAdd,Nat.reduceSub,BEq.rfl]))|((with_reducible apply AP.k_nil);first|(refine AP.nil (hQ' _ ?_);clear hQ' Q')|refine AP.nil ?_)|((with_reducible apply CP.k_reg);refine cp_regG fun Q' hQ'=>?_)|refine CP.W ?_|refine cp_cond rfl (fun hc=>?_) (fun hc=>?_)|(simp only [List.append_eq,List.cons_append,List.nil_append]))
    (refine RetQ.B [(0,0)] ?_;(try dsimp only [resV,List.getD_cons_succ,List.getD_cons_zero]);(exact ⟨rfl,rfl⟩))
theorem wcat2_ac (a b:List UInt8) (h:a.length + b.length≤10000000):AC Tryz.prog 123 [bss none [a,b]] [] (fun v bs'=>v=bs none (a ++ b)∧bs'=[]):=by
  have h1:=(wcat_ac [a,b] (by simp) (by simp;omega)).ro (r2:=bs none (a ++ b)) (by simp only [AV.ro,List.flatten_cons,List.flatten_nil,List.append_nil,ro_B])
  exact h1
theorem hblocks1_ac (K:List UInt8) (hK:K.length≤64):AC Tryz.prog 193 [bs none K] [] (fun v bs'=>v=.fn 213 [.bp 0 0 0]∧bs'=[bxB (fullS K)]):=by
  have d0:decide ((64:Int) < (K.length:Int))=false:=by simp;omega
  have hw:IntKind.i64.wrap (64 - (K.length:Int))=((64 - K.length:Nat):Int):=by rw [wrap_i64 (by omega) (by omega)];omega
  have h1:=wcat2_ac K (List.replicate (64 - K.length) 0) (by simp;omega)
  rw [show K ++ List.replicate (64 - K.length) 0=fullS K from rfl] at h1
  generalize fullS K=L at *
  refine AC.N Tryz.func193 Tryz.ntmps193 ?_
  intro X hρ hmks
  simp only [nx,Nat.reduceAdd,Nat.reduceSub,BEq.rfl]
  refine CP.gh gh_slot ?_;simp only [nx,Nat.reduceAdd,Nat.reduceSub,BEq.rfl]
  refine CP.gh gh_slot ?_;simp only [nx,Nat.reduceAdd,Nat.reduceSub,BEq.rfl]
  refine CP.gh gh_slot ?_;simp only [nx,Nat.reduceAdd,Nat.reduceSub,BEq.rfl]
  repeat' (first|((first|((with_reducible apply AP.k_any);first|refine AP.S ?_|refine AP.A ?_|refine AP.AB 0 ?_|refine AP.AB 1 ?_|refine AP.AL ?_|refine AP.LB ?_|refine AP.TB ?_|refine AP.IX ?_|refine AP.SF ?_|refine AP.SV ?_|refine AP.CV ?_|refine AP.CO ?_|refine AP.FV ?_|refine ap_makeS rfl rfl rfl rfl rfl rfl rfl rfl rfl rfl rfl (by omega) ?_|refine AP.PF ?_))<;>(try simp only [d0,mk0,hw,nx,q4,rn,fq,Nat.mul_one,Bool.and_true,Bool.and_false,Nat.reduceBEq,Nat.reduceAdd,Nat.reduceSub,BEq.rfl]))|((with_reducible apply AP.k_nil);first|(refine AP.nil (hQ' _ ?_);clear hQ' Q')|refine AP.nil ?_)|((with_reducible apply CP.k_reg);refine cp_regG fun Q' hQ'=>?_)|refine CP.W ?_|refine cp_cond rfl (fun hc=>?_) (fun hc=>?_)|(simp only [List.append_eq,List.cons_append,List.nil_append]))
  (exact RetQ.A [(0,3)] (by exact ⟨rfl,rfl⟩))
theorem hblocks2_ac (key:List UInt8) (hk:key.length≤1000000) (h64:64 < key.length):AC Tryz.prog 193 [bs none key] [] (fun v bs'=>v=.fn 213 [.bp 0 0 0]∧bs'=[bxB (fullS (shaS key))]):=by
  have d0:decide ((64:Int) < (key.length:Int))=true:=by simp;omega
  have h0:=sha_ac key hk
  have hK:=shaS_len key
  have htm:=tagC_map hK
  generalize shaS key=K at *
  have hw:IntKind.i64.wrap (64 - (K.length:Int))=((64 - K.length:Nat):Int):=by rw [wrap_i64 (by omega) (by omega)];omega
  have h1:=wcat2_ac K (List.replicate (64 - K.length) 0) (by simp;omega)
  rw [show K ++ List.replicate (64 - K.length) 0=fullS K from rfl] at h1
  generalize fullS K=L at *
  refine AC.N Tryz.func193 Tryz.ntmps193 ?_
  intro X hρ hmks
  simp only [nx,Nat.reduceAdd,Nat.reduceSub,BEq.rfl]
  refine CP.gh gh_slot ?_;simp only [nx,Nat.reduceAdd,Nat.reduceSub,BEq.rfl]
  refine CP.gh gh_slot ?_;simp only [nx,Nat.reduceAdd,Nat.reduceSub,BEq.rfl]
  refine CP.gh gh_slot ?_;simp only [nx,Nat.reduceAdd,Nat.reduceSub,BEq.rfl]
  refine CP.gh gh_slot ?_;simp only [nx,Nat.reduceAdd,Nat.reduceSub,BEq.rfl]
  repeat' (first|((first|((with_reducible apply AP.k_any);first|refine AP.S ?_|refine AP.A ?_|refine AP.AB 0 ?_|refine AP.AB 1 ?_|refine AP.AL ?_|refine AP.LB ?_|refine AP.TB ?_|refine AP.IX ?_|refine AP.SF ?_|refine AP.SV ?_|refine AP.CV ?_|refine AP.CO ?_|refine AP.FV ?_|refine ap_makeS rfl rfl rfl rfl rfl rfl rfl rfl rfl rfl rfl (by omega) ?_|refine AP.PF ?_))<;>(try simp only [d0,mk0,hw,htm,nx,q4,rn,fq,Nat.mul_one,Bool.and_true,Bool.and_false,Nat.reduceBEq,Nat.reduceAdd,Nat.reduceSub,BEq.rfl]))|((with_reducible apply AP.k_nil);first|(refine AP.nil (hQ' _ ?_);clear hQ' Q')|refine AP.nil ?_)|((with_reducible apply CP.k_reg);refine cp_regG fun Q' hQ'=>?_)|refine CP.W ?_|refine cp_cond rfl (fun hc=>?_) (fun hc=>?_)|(simp only [List.append_eq,List.cons_append,List.nil_append]))
  (exact RetQ.A [(0,4)] (by exact ⟨rfl,rfl⟩))
theorem hblocks_ac (key:List UInt8) (hk:key.length≤1000000):AC Tryz.prog 193 [bs none key] [] (fun v bs'=>v=.fn 213 [.bp 0 0 0]∧bs'=[bxB (fullS (keyS key))]):=by
  unfold keyS
  split
  · exact hblocks2_ac key hk (by assumption)
  · exact hblocks1_ac key (by omega)
end Go.Proofs.YtmgneincjfhaoaaGreat

namespace Go.Proofs.YtmgneincjfhaoaaGreat
set_option linter.unusedVariables false
set_option linter.unusedSimpArgs false
set_option maxHeartbeats 8000000
open Go.RowKit
set_option maxRecDepth 100000
theorem wcatO_ac (ls:List (List UInt8)) (hl:ls.length≤100000000) (hf:ls.flatten.length≤100000000) :
    AC Tryz.prog 123 [bss (some tB) ls] [] (fun v bs'=>v=bs (some tU) ls.flatten∧bs'=[]):=by
  refine AC.N Tryz.func123 Tryz.ntmps123 ?_
  intro X hρ hmks
  simp only [nx,Nat.reduceAdd,Nat.reduceSub,BEq.rfl]
  refine CP.gh (gh_fzS (b:=0) rfl) ?_
  simp only [ro_S,nx,q4,rn,fq,Nat.mul_one,Bool.and_true,Bool.and_false,Nat.reduceBEq,Nat.reduceAdd,Nat.reduceSub,BEq.rfl]
  repeat' (first|((first|((with_reducible apply AP.k_any);first|refine AP.S ?_|refine AP.E ?_))<;>(try simp only [nx,Nat.reduceAdd,Nat.reduceSub,BEq.rfl]))|((with_reducible apply AP.k_nil);first|(refine AP.nil (hQ' _ ?_);clear hQ' Q')|refine AP.nil ?_)|((with_reducible apply CP.k_reg);refine cp_regG fun Q' hQ'=>?_)|refine CP.W ?_|refine cp_cond rfl (fun hc=>?_) (fun hc=>?_)|(simp only [List.append_eq,List.cons_append,List.nil_append]))
  refine CP.gh (gh_nil (t:=3) (e:=tU) (k:=1) rfl) ?_
  simp only [nx,Nat.reduceAdd,Nat.reduceSub,BEq.rfl]
  refine cp_loopS [3,5,8,9,10,11,12,13,14,15] (fun a:Nat×Nat=>ls.length - a.1) (fun a=>a.1≤ls.length) (fun a=>[(8,I a.1),(3,.hd 0 a.2)]) (fun a=>[(0,⟨a.2,.r tU 1 ((ls.take a.1).flatten.map eB)⟩)]) (0,2) (Nat.zero_le _) (by exact Gh.W) ?_
  rintro ⟨k,u⟩ hk
  simp only [setT,deT,setB,List.set_cons_succ,List.set_cons_zero]
  dsimp only at hk
  by_cases hlt:k < ls.length
  · have hw:IntKind.i64.wrap ((k:Int) + 1)=((k + 1:Nat):Int):=wrap_i64 (by omega) (by omega)
    have hlen:(ls.take k).flatten.length + ls[k].length≤100000000:=by
      have h1:(ls.take k).flatten ++ ls[k]=(ls.take (k + 1)).flatten:=by rw [List.take_succ_eq_append_getElem hlt,List.flatten_append,List.flatten_cons,List.flatten_nil,List.append_nil]
      have h2:(ls.take (k + 1)).flatten ++ (ls.drop (k + 1)).flatten=ls.flatten:=by rw [←List.flatten_append,List.take_append_drop]
      have h3:=congrArg List.length h1
      have h4:=congrArg List.length h2
      simp only [List.length_append] at h3 h4
      omega
    have hlen2:((ls.take k).flatten.map eB).length + (ls[k].map eB).length≤1000000000:=by rw [List.length_map,List.length_map];omega
    repeat' (first|((first|((with_reducible apply AP.k_any);first|refine AP.S ?_|refine AP.E ?_))<;>(try simp only [nx,Nat.reduceAdd,Nat.reduceSub,BEq.rfl]))|((with_reducible apply AP.k_nil);first|(refine AP.nil (hQ' _ ?_);clear hQ' Q')|refine AP.nil ?_)|((with_reducible apply CP.k_reg);refine cp_regG fun Q' hQ'=>?_)|refine CP.W ?_|refine cp_cond rfl (fun hc=>?_) (fun hc=>?_)|(simp only [List.append_eq,List.cons_append,List.nil_append]))
    · simp only [hw]
      refine ⟨(k + 1,u + 1),by (dsimp only;omega),by (dsimp only;omega),?_⟩
      have h1:(ls.take (k + 1)).flatten.map eB=(ls.take k).flatten.map eB ++ ls[k].map eB:=by rw [List.take_succ_eq_append_getElem hlt,List.flatten_append,List.flatten_cons,List.flatten_nil,List.append_nil,List.map_append]
      simp only [h1]
      exact Gh.W
    · exfalso;simp at *;omega
  · obtain rfl:k=ls.length:=by omega
    rw [List.take_length]
    repeat' (first|((first|((with_reducible apply AP.k_any);first|refine AP.S ?_|refine AP.E ?_))<;>(try simp only [nx,Nat.reduceAdd,Nat.reduceSub,BEq.rfl]))|((with_reducible apply AP.k_nil);first|(refine AP.nil (hQ' _ ?_);clear hQ' Q')|refine AP.nil ?_)|((with_reducible apply CP.k_reg);refine cp_regG fun Q' hQ'=>?_)|refine CP.W ?_|refine cp_cond rfl (fun hc=>?_) (fun hc=>?_)|(simp only [List.append_eq,List.cons_append,List.nil_append]))
    all_goals first
      | (exfalso;simp at *;done)
      | (exfalso;simp at *;omega)
      | (refine RetQ.B [] ?_;(try dsimp only [resV,List.getD_cons_succ,List.getD_cons_zero]);(exact ⟨rfl,rfl⟩))
theorem wcat2O_ac (a b:List UInt8) (h:a.length + b.length≤10000000):AC Tryz.prog 123 [bss (some tB) [a,b]] [] (fun v bs'=>v=bs none (a ++ b)∧bs'=[]):=by
  have h1:=(wcatO_ac [a,b] (by simp) (by simp;omega)).ro (r2:=bs none (a ++ b)) (by simp only [AV.ro,List.flatten_cons,List.flatten_nil,List.append_nil,ro_B])
  exact h1
theorem hmac_ac (key b:List UInt8) (hk:key.length≤1000000) (hb:b.length≤900000):AC Tryz.prog 157 [bs none key,bs none b] [] (fun v bs'=>v=tg (hmacS key b)∧bs'=[]):=by
  have hkl:=keyS_len key
  have hfl:=fullS_len hkl
  have h0:=hblocks_ac key hk
  have h1:=AC.ro (clos_ac (fullS (keyS key)) 0x36 (by omega)) (r2:=bs none (xorK (keyS key) 0x36)) (by simp only [AV.ro,ro_B];rfl)
  have h2:=AC.ro (clos_ac (fullS (keyS key)) 0x5c (by omega)) (r2:=bs none (xorK (keyS key) 0x5c)) (by simp only [AV.ro,ro_B];rfl)
  have hl1:=xorK_len hkl 0x36
  have hl2:=xorK_len hkl 0x5c
  unfold hmacS
  generalize xorK (keyS key) 0x36=k1 at *
  generalize xorK (keyS key) 0x5c=k2 at *
  generalize fullS (keyS key)=L at *
  have h3:=wcat2_ac k1 b (by omega)
  have h4:=sha_ac (k1 ++ b) (by simp;omega)
  have hs:=shaS_len (k1 ++ b)
  generalize shaS (k1 ++ b)=t at *
  have htm:=tagC_map hs
  simp only [tagC,List.map_cons,List.map_nil] at htm
  have h6:=wcat2_ac k2 t (by omega)
  have h8:=wcat2O_ac k2 t (by omega)
  have h7:=sha_ac (k2 ++ t) (by simp;omega)
  generalize shaS (k2 ++ t)=t2 at *
  refine AC.N Tryz.func157 Tryz.ntmps157 ?_
  intro X hρ hmks
  simp only [nx,Nat.reduceAdd,Nat.reduceSub,BEq.rfl]
  refine CP.gh gh_slot ?_;simp only [nx,Nat.reduceAdd,Nat.reduceSub,BEq.rfl]
  refine CP.gh gh_slot ?_;simp only [nx,Nat.reduceAdd,Nat.reduceSub,BEq.rfl]
  refine CP.gh gh_slot ?_;simp only [nx,Nat.reduceAdd,Nat.reduceSub,BEq.rfl]
  refine CP.gh gh_slot ?_;simp only [nx,Nat.reduceAdd,Nat.reduceSub,BEq.rfl]
  repeat' (first|((first|((with_reducible apply AP.k_any);first|refine AP.S ?_|refine AP.A ?_|refine AP.AB 0 ?_|refine AP.AB 1 ?_|refine AP.AL ?_|refine AP.LB ?_|refine AP.TB ?_|refine AP.IX ?_|refine AP.SF ?_|refine AP.SV ?_|refine AP.CV ?_|refine AP.CO ?_|refine AP.FV ?_|((with_reducible apply AP.k_any);refine AP.B 1 (h0) ?_)|((with_reducible apply AP.k_any);refine AP.B 0 (h1) ?_)|((with_reducible apply AP.k_any);refine AP.B 0 (h2) ?_)|((with_reducible apply AP.k_any);refine AP.C (h3) ?_)|((with_reducible apply AP.k_any);refine AP.C (h4) ?_)|((with_reducible apply AP.k_any);refine AP.C (h6) ?_)|((with_reducible apply AP.k_any);refine AP.C (h7) ?_)|((with_reducible apply AP.k_any);refine AP.C (h8) ?_)|refine AP.PF ?_)|((with_reducible apply DW.k_any);first|refine DW.R ?_|refine DW.R' ?_|refine DW.W ?_|refine DW.W' ?_|refine DW.RA ?_|refine DW.A 0 ?_|refine DW.A 1 ?_|refine DW.A 2 ?_|refine DW.A' 0 ?_|refine DW.A' 2 ?_|((fail_if_success refine DW.known rfl ?_);refine DW.G (fun hg=>?_) (fun hg=>?_))|refine DW.WX ?_|refine DW.RX ?_|refine DW.WX' ?_)|((with_reducible apply DW.k_any);first|refine DW.R ?_|refine DW.R' ?_|refine DW.W ?_|refine DW.W' ?_|(refine DW.known rfl ?_;(with_reducible first|apply DW.sx 2|apply DW.sxN 2);(iterate 2 (focus (simp only [ft,nm,Nat.reduceAdd,Nat.reduceBEq,List.getElem?_cons_zero,List.getElem?_cons_succ];exact rfl)));(focus (intro X V;simp only [ft,nm,Nat.reduceAdd,Nat.reduceBEq];(try (refine AP.Y ?_;dsimp only));(first|((with_reducible apply AP.k_any);refine AP.B 1 (h0) ?_)|((with_reducible apply AP.k_any);refine AP.B 0 (h1) ?_)|((with_reducible apply AP.k_any);refine AP.B 0 (h2) ?_)|((with_reducible apply AP.k_any);refine AP.C (h3) ?_)|((with_reducible apply AP.k_any);refine AP.C (h4) ?_)|((with_reducible apply AP.k_any);refine AP.C (h6) ?_)|((with_reducible apply AP.k_any);refine AP.C (h7) ?_)|((with_reducible apply AP.k_any);refine AP.C (h8) ?_)|fail);(try simp only [nx,Nat.reduceAdd,Nat.reduceSub,BEq.rfl]);refine AP.nil ?_;(first|refine ⟨trivial,rfl,?_⟩|refine ⟨rfl,rfl,?_⟩);(repeat' (first|exact Mg.nil|apply Mg.keep rfl|apply Mg.take rfl));done));(focus (refine Exists.intro (fun _=>0) ?_;apply Exists.intro;(repeat' (first|exact Mg.nil|apply Mg.keep rfl|apply Mg.take rfl));done));(iterate 2 (focus (exact rfl))))|((fail_if_success refine DW.known rfl ?_);refine DW.G (fun hg=>?_) (fun hg=>?_))))<;>(try simp only [htm,nx,q4,rn,fq,Nat.mul_one,Bool.and_true,Bool.and_false,Nat.reduceBEq,Nat.reduceAdd,Nat.reduceSub,BEq.rfl]))|((with_reducible apply AP.k_nil);first|(refine AP.nil (hQ' _ ?_);clear hQ' Q')|refine AP.nil ?_)|((with_reducible apply CP.k_drw);refine cp_drwX fun Q' hQ'=>?_)|((with_reducible apply CP.k_drw1);refine cp_drawX ?_)|((with_reducible apply DW.k_nil);refine DW.nl ?_;first|(refine hQ' _ ?_;clear hQ' Q')|skip)|((with_reducible apply CP.k_reg);refine cp_regG fun Q' hQ'=>?_)|refine CP.W ?_|refine cp_cond rfl (fun hc=>?_) (fun hc=>?_)|(simp only [List.append_eq,List.cons_append,List.nil_append]))
  (exact RetQ.A [] (by exact ⟨rfl,rfl⟩))
end Go.Proofs.YtmgneincjfhaoaaGreat

namespace Go.Proofs.YtmgneincjfhaoaaGreat
set_option linter.unusedVariables false
set_option linter.unusedSimpArgs false
set_option maxHeartbeats 8000000
open Go.RowKit
set_option maxRecDepth 100000
theorem hsame_ac (a b:List UInt8) (ha:a.length=32) (hb:b.length=32):AC Tryz.prog 119 [tg a,tg b] [] (fun v bs'=>v=B (decide (a=b))∧bs'=[]):=by
  have h1:=wsame_ac a b (by omega)
  have hma:=tagC_map ha
  have hmb:=tagC_map hb
  simp only [tagC,List.map_cons,List.map_nil] at hma hmb
  refine AC.N Tryz.func119 Tryz.ntmps119 ?_
  intro X hρ hmks
  simp only [nx,Nat.reduceAdd,Nat.reduceSub,BEq.rfl]
  refine CP.gh gh_slot ?_;simp only [nx,Nat.reduceAdd,Nat.reduceSub,BEq.rfl]
  repeat' (first|((first|((with_reducible apply AP.k_any);first|refine AP.S ?_|refine AP.A ?_|refine AP.AB 0 ?_|refine AP.AB 1 ?_|refine AP.AL ?_|refine AP.LB ?_|refine AP.TB ?_|refine AP.IX ?_|refine AP.SF ?_|refine AP.SV ?_|refine AP.CV ?_|refine AP.CO ?_|refine AP.FV ?_|refine AP.PF ?_)|((with_reducible apply DW.k_any);first|refine DW.R ?_|refine DW.R' ?_|refine DW.W ?_|refine DW.W' ?_|refine DW.RA ?_|refine DW.A 0 ?_|refine DW.A 1 ?_|refine DW.A 2 ?_|refine DW.A' 0 ?_|refine DW.A' 2 ?_|((fail_if_success refine DW.known rfl ?_);refine DW.G (fun hg=>?_) (fun hg=>?_))|refine DW.WX ?_|refine DW.RX ?_|refine DW.WX' ?_)|((with_reducible apply DW.k_any);first|refine DW.R ?_|refine DW.R' ?_|refine DW.W ?_|refine DW.W' ?_|(refine DW.known rfl ?_;(with_reducible first|apply DW.sx 2|apply DW.sxN 2);(iterate 2 (focus (simp only [ft,nm,Nat.reduceAdd,Nat.reduceBEq,List.getElem?_cons_zero,List.getElem?_cons_succ];exact rfl)));(focus (intro X V;simp only [ft,nm,Nat.reduceAdd,Nat.reduceBEq];(try (refine AP.Y ?_;dsimp only));(first|fail);(try simp only [nx,Nat.reduceAdd,Nat.reduceSub,BEq.rfl]);refine AP.nil ?_;(first|refine ⟨trivial,rfl,?_⟩|refine ⟨rfl,rfl,?_⟩);(repeat' (first|exact Mg.nil|apply Mg.keep rfl|apply Mg.take rfl));done));(focus (refine Exists.intro (fun _=>0) ?_;apply Exists.intro;(repeat' (first|exact Mg.nil|apply Mg.keep rfl|apply Mg.take rfl));done));(iterate 2 (focus (exact rfl))))|((fail_if_success refine DW.known rfl ?_);refine DW.G (fun hg=>?_) (fun hg=>?_))))<;>(try simp only [hma,hmb,nx,q4,rn,fq,Nat.mul_one,Bool.and_true,Bool.and_false,Nat.reduceBEq,Nat.reduceAdd,Nat.reduceSub,BEq.rfl]))|((with_reducible apply AP.k_nil);first|(refine AP.nil (hQ' _ ?_);clear hQ' Q')|refine AP.nil ?_)|((with_reducible apply CP.k_drw);refine cp_drwX fun Q' hQ'=>?_)|((with_reducible apply CP.k_drw1);refine cp_drawX ?_)|((with_reducible apply DW.k_nil);refine DW.nl ?_;first|(refine hQ' _ ?_;clear hQ' Q')|skip)|((with_reducible apply CP.k_reg);refine cp_regG fun Q' hQ'=>?_)|refine CP.W ?_|refine cp_cond rfl (fun hc=>?_) (fun hc=>?_)|(simp only [List.append_eq,List.cons_append,List.nil_append]))
  (exact RetQ.A [] (by exact ⟨rfl,rfl⟩))
end Go.Proofs.YtmgneincjfhaoaaGreat

namespace Go.Proofs.YtmgneincjfhaoaaGreat
set_option linter.unusedVariables false
set_option linter.unusedSimpArgs false
set_option maxHeartbeats 8000000
open Go.RowKit
set_option maxRecDepth 100000
structure Pkt where
  frm:Int
  to:Int
  epoch:Int
  boot:Int
  seqn:Int
  body:List UInt8
  tag:List UInt8
abbrev eP (p:Pkt):List AV:=[I p.frm,I p.to,I p.epoch,I p.boot,I p.seqn,bs none p.body,U (p.tag.getD 0 0),U (p.tag.getD 1 0),U (p.tag.getD 2 0),U (p.tag.getD 3 0),U (p.tag.getD 4 0),U (p.tag.getD 5 0),U (p.tag.getD 6 0),U (p.tag.getD 7 0),U (p.tag.getD 8 0),U (p.tag.getD 9 0),U (p.tag.getD 10 0),U (p.tag.getD 11 0),U (p.tag.getD 12 0),U (p.tag.getD 13 0),U (p.tag.getD 14 0),U (p.tag.getD 15 0),U (p.tag.getD 16 0),U (p.tag.getD 17 0),U (p.tag.getD 18 0),U (p.tag.getD 19 0),U (p.tag.getD 20 0),U (p.tag.getD 21 0),U (p.tag.getD 22 0),U (p.tag.getD 23 0),U (p.tag.getD 24 0),U (p.tag.getD 25 0),U (p.tag.getD 26 0),U (p.tag.getD 27 0),U (p.tag.getD 28 0),U (p.tag.getD 29 0),U (p.tag.getD 30 0),U (p.tag.getD 31 0)]
def whoS (n:Int):Bool:=(decide (0≤n) && decide (n≤4)) || n == 8 || n == 9
def mayP (p:Pkt):Bool:=whoS p.frm && whoS p.to && !(p.frm == p.to) && decide (1≤p.epoch) && decide (0≤p.boot) && decide (1≤p.seqn)
theorem known_ac (n:Int):AC Tryz.prog 155 [I n] [] (fun v bs'=>v=B (whoS n)∧bs'=[]):=by
  refine AC.N Tryz.func155 Tryz.ntmps155 ?_
  intro X hρ hmks
  simp only [nx,Nat.reduceAdd,Nat.reduceSub,BEq.rfl]
  repeat' (first|((first|((with_reducible apply AP.k_any);first|refine AP.S ?_|(refine AP.Y ?_;dsimp only)|refine AP.G (fun hg=>?_) (fun hg=>?_)|refine AP.A ?_|refine AP.AB 0 ?_|refine AP.AB 1 ?_|refine AP.AL ?_))<;>(try simp only [nx,Nat.reduceAdd,Nat.reduceSub,BEq.rfl]))|((with_reducible apply AP.k_nil);first|(refine AP.nil (hQ' _ ?_);clear hQ' Q')|refine AP.nil ?_)|((with_reducible apply CP.k_reg);refine cp_regG fun Q' hQ'=>?_)|refine CP.W ?_|refine cp_cond rfl (fun hc=>?_) (fun hc=>?_)|(simp only [List.append_eq,List.cons_append,List.nil_append]))
  all_goals (refine RetQ.B [] ?_;(try dsimp only [resV,List.getD_cons_succ,List.getD_cons_zero]);((refine ⟨congrArg B ?_,rfl⟩;(repeat (rename AC _ _ _ _ _=>hzz;clear hzz));simp at *;simp [whoS,*];try omega)))
theorem mayP_ac (p:Pkt):AC Tryz.prog 118 [.ag (eP p)] [] (fun v bs'=>v=B (mayP p)∧bs'=[]):=by
  have h1:=known_ac p.frm
  have h2:=known_ac p.to
  unfold mayP
  generalize whoS p.frm=x at h1 ⊢
  generalize whoS p.to=y at h2 ⊢
  refine AC.N Tryz.func118 Tryz.ntmps118 ?_
  intro X hρ hmks
  simp only [nx,Nat.reduceAdd,Nat.reduceSub,BEq.rfl]
  repeat' (first|((first|((with_reducible apply AP.k_any);first|refine AP.S ?_|(refine AP.Y ?_;dsimp only)|refine AP.G (fun hg=>?_) (fun hg=>?_)|refine AP.A ?_|refine AP.AB 0 ?_|refine AP.AB 1 ?_|refine AP.AL ?_|((with_reducible apply AP.k_any);refine AP.C (h1) ?_)))<;>(try simp only [nx,Nat.reduceAdd,Nat.reduceSub,BEq.rfl]))|((with_reducible apply AP.k_nil);first|(refine AP.nil (hQ' _ ?_);clear hQ' Q')|refine AP.nil ?_)|((with_reducible apply CP.k_reg);refine cp_regG fun Q' hQ'=>?_)|refine CP.W ?_|refine cp_cond rfl (fun hc=>?_) (fun hc=>?_)|(simp only [List.append_eq,List.cons_append,List.nil_append]))
  all_goals (refine RetQ.B [] ?_;(try dsimp only [resV,List.getD_cons_succ,List.getD_cons_zero]);((refine ⟨congrArg B ?_,rfl⟩;(repeat (rename AC _ _ _ _ _=>hzz;clear hzz));first|(simp_all;done)|(simp at *;simp_all;omega)|(rw [Bool.eq_iff_iff];simp at *;simp_all;try omega))))
end Go.Proofs.YtmgneincjfhaoaaGreat

namespace Go.Proofs.YtmgneincjfhaoaaGreat
set_option linter.unusedVariables false
set_option linter.unusedSimpArgs false
set_option maxHeartbeats 8000000
open Go.RowKit
set_option maxRecDepth 100000
abbrev Wst:=Bool×List UInt8
theorem wtag_ac (st:Wst) (t:List UInt8) (hst:st.2.length≤65536) (ht:t.length=32):AC Tryz.prog 141 [.bp 0 0 0,tg t] [wB st] (fun v bs'=>v=.bp 0 0 0∧bs'=[wB (addS st t)]):=by
  have h2:=add_ac st [t] hst (by simp) (by simp;omega)
  rw [show [t].foldl addS st=addS st t from rfl] at h2
  have htm:=tagC_map ht
  simp only [tagC,List.map_cons,List.map_nil] at htm
  refine AC.N Tryz.func141 Tryz.ntmps141 ?_
  intro X hρ hmks
  simp only [nx,Nat.reduceAdd,Nat.reduceSub,BEq.rfl]
  refine CP.gh gh_slot ?_;simp only [nx,Nat.reduceAdd,Nat.reduceSub,BEq.rfl]
  repeat' (first|((first|((with_reducible apply AP.k_any);first|refine AP.S ?_|refine AP.A ?_|refine AP.AB 0 ?_|refine AP.AB 1 ?_|refine AP.AL ?_|refine AP.LB ?_|refine AP.TB ?_|refine AP.IX ?_|refine AP.SF ?_|refine AP.SV ?_|refine AP.CV ?_|refine AP.CO ?_|refine AP.FV ?_|refine AP.PF ?_))<;>(try simp only [htm,nx,q4,rn,fq,Nat.mul_one,Bool.and_true,Bool.and_false,Nat.reduceBEq,Nat.reduceAdd,Nat.reduceSub,BEq.rfl]))|((with_reducible apply AP.k_nil);first|(refine AP.nil (hQ' _ ?_);clear hQ' Q')|refine AP.nil ?_)|((with_reducible apply CP.k_reg);refine cp_regG fun Q' hQ'=>?_)|refine CP.W ?_|refine cp_cond rfl (fun hc=>?_) (fun hc=>?_)|(simp only [List.append_eq,List.cons_append,List.nil_append]))
  (exact RetQ.A [(0,0)] (by exact ⟨rfl,rfl⟩))
theorem headQ_ac (p:Pkt) (s0 s1 s2 s3 s4 s5 s6:Wst)
    (h0:AC Tryz.prog 100 [] [] (fun v bs'=>v=.bp 0 0 0∧bs'=[wB s0]))
    (i1:AC Tryz.prog 165 [.bp 0 0 0,I p.frm] [wB s0] (fun v bs'=>v=.bp 0 0 0∧bs'=[wB s1]))
    (i2:AC Tryz.prog 165 [.bp 0 0 0,I p.to] [wB s1] (fun v bs'=>v=.bp 0 0 0∧bs'=[wB s2]))
    (i3:AC Tryz.prog 165 [.bp 0 0 0,I p.epoch] [wB s2] (fun v bs'=>v=.bp 0 0 0∧bs'=[wB s3]))
    (i4:AC Tryz.prog 165 [.bp 0 0 0,I p.boot] [wB s3] (fun v bs'=>v=.bp 0 0 0∧bs'=[wB s4]))
    (i5:AC Tryz.prog 165 [.bp 0 0 0,I p.seqn] [wB s4] (fun v bs'=>v=.bp 0 0 0∧bs'=[wB s5]))
    (i6:AC Tryz.prog 166 [.bp 0 0 0,bs none p.body] [wB s5] (fun v bs'=>v=.bp 0 0 0∧bs'=[wB s6])) :
    AC Tryz.prog 140 [.ag (eP p)] [] (fun v bs'=>v=.bp 0 0 0∧bs'=[wB s6]):=by
  refine AC.N Tryz.func140 Tryz.ntmps140 ?_
  intro X hρ hmks
  simp only [nx,Nat.reduceAdd,Nat.reduceSub,BEq.rfl]
  refine CP.gh gh_slot ?_;simp only [nx,Nat.reduceAdd,Nat.reduceSub,BEq.rfl]
  refine CP.gh gh_slot ?_;simp only [nx,Nat.reduceAdd,Nat.reduceSub,BEq.rfl]
  refine CP.gh gh_slot ?_;simp only [nx,Nat.reduceAdd,Nat.reduceSub,BEq.rfl]
  repeat' (first|((first|((with_reducible apply AP.k_any);first|refine AP.S ?_|refine AP.A ?_|refine AP.AB 0 ?_|refine AP.AB 1 ?_|refine AP.AL ?_|refine AP.LB ?_|refine AP.TB ?_|refine AP.IX ?_|refine AP.SF ?_|refine AP.SV ?_|refine AP.CV ?_|refine AP.CO ?_|refine AP.FV ?_|((with_reducible apply AP.k_any);refine AP.B 0 (i1) ?_)|((with_reducible apply AP.k_any);refine AP.B 0 (i2) ?_)|((with_reducible apply AP.k_any);refine AP.B 0 (i3) ?_)|((with_reducible apply AP.k_any);refine AP.B 0 (i4) ?_)|((with_reducible apply AP.k_any);refine AP.B 0 (i5) ?_)|((with_reducible apply AP.k_any);refine AP.B 0 (i6) ?_)|((with_reducible apply AP.k_any);refine AP.B 2 (h0) ?_)|refine AP.PF ?_)|((with_reducible apply DW.k_any);first|refine DW.R ?_|refine DW.R' ?_|refine DW.W ?_|refine DW.W' ?_|refine DW.RA ?_|refine DW.A 0 ?_|refine DW.A 1 ?_|refine DW.A 2 ?_|refine DW.A' 0 ?_|refine DW.A' 2 ?_|((fail_if_success refine DW.known rfl ?_);refine DW.G (fun hg=>?_) (fun hg=>?_))|refine DW.RX ?_|refine DW.WX ?_|refine DW.WX' ?_)|((with_reducible apply DW.k_any);first|refine DW.R ?_|refine DW.R' ?_|refine DW.W ?_|refine DW.W' ?_|(refine DW.known rfl ?_;(with_reducible first|apply DW.sx 2|apply DW.sxN 2);(iterate 2 (focus (simp only [ft,nm,Nat.reduceAdd,Nat.reduceBEq,List.getElem?_cons_zero,List.getElem?_cons_succ];exact rfl)));(focus (intro X V;simp only [ft,nm,Nat.reduceAdd,Nat.reduceBEq];(try (refine AP.Y ?_;dsimp only));(first|((with_reducible apply AP.k_any);refine AP.B 0 (i1) ?_)|((with_reducible apply AP.k_any);refine AP.B 0 (i2) ?_)|((with_reducible apply AP.k_any);refine AP.B 0 (i3) ?_)|((with_reducible apply AP.k_any);refine AP.B 0 (i4) ?_)|((with_reducible apply AP.k_any);refine AP.B 0 (i5) ?_)|((with_reducible apply AP.k_any);refine AP.B 0 (i6) ?_)|((with_reducible apply AP.k_any);refine AP.B 2 (h0) ?_)|fail);(try simp only [nx,Nat.reduceAdd,Nat.reduceSub,BEq.rfl]);refine AP.nil ?_;(first|refine ⟨trivial,rfl,?_⟩|refine ⟨rfl,rfl,?_⟩);(repeat' (first|exact Mg.nil|apply Mg.keep rfl|apply Mg.take rfl));done));(focus (refine Exists.intro (fun _=>0) ?_;apply Exists.intro;(repeat' (first|exact Mg.nil|apply Mg.keep rfl|apply Mg.take rfl));done));(iterate 2 (focus (exact rfl))))|((fail_if_success refine DW.known rfl ?_);refine DW.G (fun hg=>?_) (fun hg=>?_))))<;>(try simp only [nx,q4,rn,fq,Nat.mul_one,Bool.and_true,Bool.and_false,Nat.reduceBEq,Nat.reduceAdd,Nat.reduceSub,BEq.rfl]))|((with_reducible apply AP.k_nil);first|(refine AP.nil (hQ' _ ?_);clear hQ' Q')|refine AP.nil ?_)|((with_reducible apply CP.k_drw);refine cp_drwX fun Q' hQ'=>?_)|((with_reducible apply CP.k_drw1);refine cp_drawX ?_)|((with_reducible apply DW.k_nil);refine DW.nl ?_;first|(refine hQ' _ ?_;clear hQ' Q')|skip)|((with_reducible apply CP.k_reg);refine cp_regG fun Q' hQ'=>?_)|refine CP.W ?_|refine cp_cond rfl (fun hc=>?_) (fun hc=>?_)|(simp only [List.append_eq,List.cons_append,List.nil_append]))
  (exact RetQ.A [(1,1)] (by exact ⟨rfl,rfl⟩))
def headS (p:Pkt):List UInt8:=intS p.frm ++ intS p.to ++ intS p.epoch ++ intS p.boot ++ intS p.seqn ++ putS p.body.length 4 ++ p.body
theorem headS_len (p:Pkt):(headS p).length=44 + p.body.length:=by
  have (n:Int):(intS n).length=8:=putS_length _ _
  simp [headS,this,putS_length];omega
theorem haddS_ok {x b:List UInt8} (h:x.length + b.length≤65536):addS (false,x) b=(false,x ++ b):=by
  rw [addS,if_neg (by simp;omega)]
theorem head_ac (p:Pkt) (hp:p.body.length≤60000):AC Tryz.prog 140 [.ag (eP p)] [] (fun v bs'=>v=.bp 0 0 0∧bs'=[wB (false,headS p)]):=by
  have hi (n:Int):(intS n).length=8:=putS_length _ _
  have e:addS (addS (addS (addS (addS (addS (addS (false,[]) (intS p.frm)) (intS p.to)) (intS p.epoch)) (intS p.boot)) (intS p.seqn)) (putS p.body.length 4)) p.body=(false,headS p):=by
    rw [haddS_ok,haddS_ok,haddS_ok,haddS_ok,haddS_ok,haddS_ok,haddS_ok]
    · rfl
    all_goals (simp only [List.length_append,List.length_nil,hi,putS_length];omega)
  have g0:((false,[]):Wst).2.length≤65536:=by simp
  have g1:=addS_len (b:=intS p.frm) g0
  have g2:=addS_len (b:=intS p.to) g1
  have g3:=addS_len (b:=intS p.epoch) g2
  have g4:=addS_len (b:=intS p.boot) g3
  have g5:=addS_len (b:=intS p.seqn) g4
  have:=headQ_ac p _ _ _ _ _ _ _ wnew_ac (wint_ac _ _ g0) (wint_ac _ _ g1) (wint_ac _ _ g2) (wint_ac _ _ g3) (wint_ac _ _ g4) (wbytes_ac _ p.body g5 (by omega))
  rw [e] at this
  exact this
end Go.Proofs.YtmgneincjfhaoaaGreat

namespace Go.Proofs.YtmgneincjfhaoaaGreat
set_option linter.unusedVariables false
set_option linter.unusedSimpArgs false
set_option maxHeartbeats 8000000
open Go.RowKit
set_option maxRecDepth 100000
def formS (s:ByteArray) (l:List Int):List UInt8:=s.data.toList ++ [0] ++ numS l
def deriveS (key:List UInt8) (s:ByteArray) (l:List Int):List UInt8:=hmacS key (formS s l)
theorem hmacS_len (key b:List UInt8):(hmacS key b).length=32:=rfl
theorem formS_take (s:ByteArray) (l:List Int) {i:Nat} (h:i < l.length):formS s (l.take (i + 1))=formS s (l.take i) ++ intS l[i]:=by
  rw [formS,List.take_succ_eq_append_getElem h,numS_snoc,←List.append_assoc];rfl
theorem formS_len (s:ByteArray) (l:List Int):(formS s l).length=s.size + 1 + 8 * l.length:=by
  have:s.data.toList.length=s.size:=by simp
  simp only [formS,List.length_append,numS_length,this];rfl
theorem hderive_ac (key:List UInt8) (s:ByteArray) (l:List Int) (hk:key.length≤100000) (hs:s.size≤1000) (hl:l.length≤1000):AC Tryz.prog 158 [bs none key,.sc (.string s),.sl none 1 (l.map eI)] [] (fun v bs'=>v=bs none (deriveS key s l)∧bs'=[]):=by
  have hsl:s.data.toList.length=s.size:=by simp
  have h1:=wcat2_ac s.data.toList [0] (by simp;omega)
  rw [show s.data.toList ++ [0]=formS s (l.take 0) by simp [formS,numS]] at h1
  have hfl:=formS_len s l
  have h5:=hmac_ac key (formS s l) (by omega) (by omega)
  have htl:=hmacS_len key (formS s l)
  have htm:=tagC_map htl
  unfold deriveS
  generalize hmacS key (formS s l)=t at *
  refine AC.N Tryz.func158 Tryz.ntmps158 ?_
  intro X hρ hmks
  simp only [nx,Nat.reduceAdd,Nat.reduceSub,BEq.rfl]
  refine CP.gh gh_slot ?_;simp only [nx,Nat.reduceAdd,Nat.reduceSub,BEq.rfl]
  refine CP.gh gh_slot ?_;simp only [nx,Nat.reduceAdd,Nat.reduceSub,BEq.rfl]
  refine CP.gh gh_slot ?_;simp only [nx,Nat.reduceAdd,Nat.reduceSub,BEq.rfl]
  refine CP.gh gh_slot ?_;simp only [nx,Nat.reduceAdd,Nat.reduceSub,BEq.rfl]
  repeat' (first|((first|((with_reducible apply AP.k_any);first|refine AP.S ?_|refine AP.E ?_|refine AP.T ?_|refine AP.A ?_|refine AP.AB 0 ?_|refine AP.AB 1 ?_|refine AP.AL ?_|refine AP.LB ?_|refine AP.TB ?_|refine AP.IX ?_|refine AP.SF ?_|refine AP.SV ?_|refine AP.CV ?_|refine AP.CO ?_|refine AP.FV ?_|refine AP.CS ?_|((with_reducible apply AP.k_any);refine AP.C (h1) ?_)|refine AP.PF ?_))<;>(try simp only [nx,q4,rn,fq,Nat.mul_one,Bool.and_true,Bool.and_false,Nat.reduceBEq,Nat.reduceAdd,Nat.reduceSub,BEq.rfl]))|((with_reducible apply AP.k_nil);first|(refine AP.nil (hQ' _ ?_);clear hQ' Q')|refine AP.nil ?_)|((with_reducible apply CP.k_reg);refine cp_regG fun Q' hQ'=>?_)|refine CP.W ?_|refine cp_cond rfl (fun hc=>?_) (fun hc=>?_)|(simp only [List.append_eq,List.cons_append,List.nil_append]))
  refine cp_loopS [7,9,18,19,20,21,22,23,24,25,26,27,28] (fun a:Nat×Nat=>l.length - a.1) (fun a=>a.1≤l.length) (fun a=>[(18,I a.1),(7,bs none (formS s (l.take a.1))),(12,.de),(13,.de)]) (fun a=>[(0,⟨a.2,.x⟩)]) (0,2) (Nat.zero_le _) (by exact Gh.W) ?_
  clear h1
  rintro ⟨i,v⟩ hi
  simp only [setT,deT,setB,List.set_cons_succ,List.set_cons_zero]
  dsimp only at hi
  by_cases hlt:i < l.length
  · have hw:IntKind.i64.wrap ((i:Int) + 1)=((i + 1:Nat):Int):=wrap_i64 (by omega) (by omega)
    have d1:decide ((i:Int) < (l.length:Int))=true:=by simp;omega
    have hx:(l.map eI)[i]? = some (eI l[i]):=by simp [hlt]
    have hft:=formS_take s l hlt
    have hln:=formS_len s (l.take i)
    rw [List.length_take] at hln
    have h3:=put64_ac (IntKind.u64.wrap l[i]).toNat
    rw [←u64_nn] at h3
    have hil:(intS l[i]).length=8:=intS_length _
    rw [show putS (IntKind.u64.wrap l[i]).toNat 8=intS l[i] from rfl] at h3
    generalize l[i]=n at *
    generalize intS n=z at *
    have h4:=wcat2_ac (formS s (l.take i)) z (by omega)
    rw [←hft] at h4
    generalize formS s (l.take i)=F at *
    repeat' (first|((first|((with_reducible apply AP.k_any);first|refine AP.S ?_|refine AP.E ?_|refine AP.T ?_|refine AP.A ?_|refine AP.AB 0 ?_|refine AP.AB 1 ?_|refine AP.AL ?_|refine AP.LB ?_|refine AP.TB ?_|refine AP.IX ?_|refine AP.SF ?_|refine AP.SV ?_|refine AP.CV ?_|refine AP.CO ?_|refine AP.FV ?_|((with_reducible apply AP.k_any);refine AP.C (h3) ?_)|((with_reducible apply AP.k_any);refine AP.C (h4) ?_)|refine AP.PF ?_))<;>(try simp only [d1,nx,q4,rn,fq,Nat.mul_one,Bool.and_true,Bool.and_false,Nat.reduceBEq,Nat.reduceAdd,Nat.reduceSub,BEq.rfl]))|((with_reducible apply AP.k_nil);first|(refine AP.nil (hQ' _ ?_);clear hQ' Q')|refine AP.nil ?_)|((with_reducible apply CP.k_reg);refine cp_regG fun Q' hQ'=>?_)|refine CP.W ?_|refine cp_cond rfl (fun hc=>?_) (fun hc=>?_)|(simp only [List.append_eq,List.cons_append,List.nil_append]))
    simp only [hw]
    exact ⟨(i + 1,v + 1),by (dsimp only;omega),by (dsimp only;omega),by (dsimp only;exact Gh.W)⟩
  · obtain rfl:i=l.length:=by omega
    have d1:decide ((l.length:Int) < (l.length:Int))=false:=by simp
    rw [List.take_of_length_le (Nat.le_refl _)]
    generalize formS s l=F at *
    repeat' (first|((first|((with_reducible apply AP.k_any);first|refine AP.S ?_|refine AP.E ?_|refine AP.T ?_|refine AP.A ?_|refine AP.AB 0 ?_|refine AP.AB 1 ?_|refine AP.AL ?_|refine AP.LB ?_|refine AP.TB ?_|refine AP.IX ?_|refine AP.SF ?_|refine AP.SV ?_|refine AP.CV ?_|refine AP.CO ?_|refine AP.FV ?_|refine AP.PF ?_))<;>(try simp only [d1,htm,nx,q4,rn,fq,Nat.mul_one,Bool.and_true,Bool.and_false,Nat.reduceBEq,Nat.reduceAdd,Nat.reduceSub,BEq.rfl]))|((with_reducible apply AP.k_nil);first|(refine AP.nil (hQ' _ ?_);clear hQ' Q')|refine AP.nil ?_)|((with_reducible apply CP.k_reg);refine cp_regG fun Q' hQ'=>?_)|refine CP.W ?_|refine cp_cond rfl (fun hc=>?_) (fun hc=>?_)|(simp only [List.append_eq,List.cons_append,List.nil_append]))
    (exact RetQ.A [] (by exact ⟨rfl,rfl⟩))
end Go.Proofs.YtmgneincjfhaoaaGreat

namespace Go.Proofs.YtmgneincjfhaoaaGreat
set_option linter.unusedVariables false
set_option linter.unusedSimpArgs false
set_option maxHeartbeats 8000000
open Go.RowKit
set_option maxRecDepth 100000
def lkS:ByteArray:=⟨#[108,105,110,107]⟩
def tagS (root:List UInt8) (p:Pkt):List UInt8:=hmacS (deriveS root lkS [p.frm,p.to,p.epoch]) (headS p)
theorem tagS_len (root:List UInt8) (p:Pkt):(tagS root p).length=32:=rfl
theorem done_ac (b:List UInt8) (hb:b.length≤65536):AC Tryz.prog 102 [.bp 0 0 0] [wB (false,b)] (fun v bs'=>v=.tu [bs none b,I 0]∧bs'=[wD (false,b)]):=wdone_ac (false,b) hb
theorem ltag_ac (root:List UInt8) (p:Pkt) (hr:root.length≤10000) (hp:p.body.length≤60000):AC Tryz.prog 120 [bs none root,.ag (eP p)] [] (fun v bs'=>v=tg (tagS root p)∧bs'=[]):=by
  have hl:=headS_len p
  have h1:=head_ac p hp
  have h2:=done_ac (headS p) (by omega)
  have h3:=hderive_ac root lkS [p.frm,p.to,p.epoch] (by omega) (by decide) (by simp)
  have hd:(deriveS root lkS [p.frm,p.to,p.epoch]).length=32:=hmacS_len _ _
  have h4:=hmac_ac (deriveS root lkS [p.frm,p.to,p.epoch]) (headS p) (by omega) (by omega)
  unfold tagS
  generalize deriveS root lkS [p.frm,p.to,p.epoch]=k at *
  generalize headS p=hd at *
  generalize hmacS k hd=t at *
  refine AC.N Tryz.func120 Tryz.ntmps120 ?_
  intro X hρ hmks
  simp only [nx,Nat.reduceAdd,Nat.reduceSub,BEq.rfl]
  refine CP.gh gh_slot ?_;simp only [nx,Nat.reduceAdd,Nat.reduceSub,BEq.rfl]
  refine CP.gh gh_slot ?_;simp only [nx,Nat.reduceAdd,Nat.reduceSub,BEq.rfl]
  refine CP.gh gh_slot ?_;simp only [nx,Nat.reduceAdd,Nat.reduceSub,BEq.rfl]
  refine CP.gh gh_slot ?_;simp only [nx,Nat.reduceAdd,Nat.reduceSub,BEq.rfl]
  repeat' (first|((first|((with_reducible apply AP.k_any);first|refine AP.S ?_|refine AP.A ?_|refine AP.AB 0 ?_|refine AP.AB 1 ?_|refine AP.AL ?_|refine AP.LB ?_|refine AP.TB ?_|refine AP.IX ?_|refine AP.SF ?_|refine AP.SV ?_|refine AP.CV ?_|refine AP.CO ?_|refine AP.FV ?_|((with_reducible apply AP.k_any);refine AP.B 2 (h1) ?_)|((with_reducible apply AP.k_any);refine AP.B 0 (h2) ?_)|((with_reducible apply AP.k_any);refine AP.C (h3) ?_)|((with_reducible apply AP.k_any);refine AP.C (h4) ?_)|refine AP.PF ?_))<;>(try simp only [nx,q4,rn,fq,Nat.mul_one,Bool.and_true,Bool.and_false,Nat.reduceBEq,Nat.reduceAdd,Nat.reduceSub,BEq.rfl]))|((with_reducible apply AP.k_nil);first|(refine AP.nil (hQ' _ ?_);clear hQ' Q')|refine AP.nil ?_)|((with_reducible apply CP.k_reg);refine cp_regG fun Q' hQ'=>?_)|refine CP.W ?_|refine cp_cond rfl (fun hc=>?_) (fun hc=>?_)|(simp only [List.append_eq,List.cons_append,List.nil_append]))
  (exact RetQ.A [] (by exact ⟨rfl,rfl⟩))
theorem right_ac (root:List UInt8) (p:Pkt) (hr:root.length≤10000) (hp:p.body.length≤60000) (ht:p.tag.length=32):AC Tryz.prog 77 [bs none root,.ag (eP p)] [] (fun v bs'=>v=B (decide (p.tag=tagS root p))∧bs'=[]):=by
  have h1:=ltag_ac root p hr hp
  have h2:=hsame_ac p.tag (tagS root p) ht (tagS_len root p)
  generalize decide (p.tag=tagS root p)=r at *
  generalize tagS root p=t at *
  refine AC.N Tryz.func77 Tryz.ntmps77 ?_
  intro X hρ hmks
  simp only [nx,Nat.reduceAdd,Nat.reduceSub,BEq.rfl]
  refine CP.gh gh_slot ?_;simp only [nx,Nat.reduceAdd,Nat.reduceSub,BEq.rfl]
  repeat' (first|((first|((with_reducible apply AP.k_any);first|refine AP.S ?_|refine AP.A ?_|refine AP.AB 0 ?_|refine AP.AB 1 ?_|refine AP.AL ?_|refine AP.LB ?_|refine AP.TB ?_|refine AP.IX ?_|refine AP.SF ?_|refine AP.SV ?_|refine AP.CV ?_|refine AP.CO ?_|refine AP.FV ?_|refine AP.PF ?_)|((with_reducible apply DW.k_any);first|refine DW.R ?_|refine DW.R' ?_|refine DW.W ?_|refine DW.W' ?_|refine DW.RA ?_|refine DW.A 0 ?_|refine DW.A 1 ?_|refine DW.A 2 ?_|refine DW.A' 0 ?_|refine DW.A' 2 ?_|((fail_if_success refine DW.known rfl ?_);refine DW.G (fun hg=>?_) (fun hg=>?_))|refine DW.RX ?_|refine DW.WX ?_|refine DW.WX' ?_)|((with_reducible apply DW.k_any);first|refine DW.R ?_|refine DW.R' ?_|refine DW.W ?_|refine DW.W' ?_|(refine DW.known rfl ?_;(with_reducible first|apply DW.sx 2|apply DW.sxN 2);(iterate 2 (focus (simp only [ft,nm,Nat.reduceAdd,Nat.reduceBEq,List.getElem?_cons_zero,List.getElem?_cons_succ];exact rfl)));(focus (intro X V;simp only [ft,nm,Nat.reduceAdd,Nat.reduceBEq];(try (refine AP.Y ?_;dsimp only));(first|fail);(try simp only [nx,Nat.reduceAdd,Nat.reduceSub,BEq.rfl]);refine AP.nil ?_;(first|refine ⟨trivial,rfl,?_⟩|refine ⟨rfl,rfl,?_⟩);(repeat' (first|exact Mg.nil|apply Mg.keep rfl|apply Mg.take rfl));done));(focus (refine Exists.intro (fun _=>0) ?_;apply Exists.intro;(repeat' (first|exact Mg.nil|apply Mg.keep rfl|apply Mg.take rfl));done));(iterate 2 (focus (exact rfl))))|((fail_if_success refine DW.known rfl ?_);refine DW.G (fun hg=>?_) (fun hg=>?_))))<;>(try simp only [nx,q4,rn,fq,Nat.mul_one,Bool.and_true,Bool.and_false,Nat.reduceBEq,Nat.reduceAdd,Nat.reduceSub,BEq.rfl]))|((with_reducible apply AP.k_nil);first|(refine AP.nil (hQ' _ ?_);clear hQ' Q')|refine AP.nil ?_)|((with_reducible apply CP.k_drw);refine cp_drwX fun Q' hQ'=>?_)|((with_reducible apply CP.k_drw1);refine cp_drawX ?_)|((with_reducible apply DW.k_nil);refine DW.nl ?_;first|(refine hQ' _ ?_;clear hQ' Q')|skip)|((with_reducible apply CP.k_reg);refine cp_regG fun Q' hQ'=>?_)|refine CP.W ?_|refine cp_cond rfl (fun hc=>?_) (fun hc=>?_)|(simp only [List.append_eq,List.cons_append,List.nil_append]))
  (exact RetQ.A [] (by exact ⟨rfl,rfl⟩))
abbrev ePO (p:Pkt):List AV:=[I p.frm,I p.to,I p.epoch,I p.boot,I p.seqn,bs (some tU) p.body] ++ tagC p.tag
theorem lprint_ac (p:Pkt) (hp:p.body.length≤60000) (ht:p.tag.length=32):AC Tryz.prog 103 [.ag (eP p)] [] (fun v bs'=>v=.tu [if mayP p then bs none (headS p ++ p.tag) else bs none [],I (if mayP p then 0 else 2)]∧bs'=[]):=by
  have hl:=headS_len p
  have h0:=mayP_ac p
  have h1:=head_ac p hp
  have h2:=wtag_ac (false,headS p) p.tag (by dsimp only;omega) ht
  rw [haddS_ok (by omega)] at h2
  have h3:=done_ac (headS p ++ p.tag) (by simp;omega)
  generalize headS p ++ p.tag=x at *
  generalize headS p=hd at *
  cases hm:mayP p with
  | true=>
    rw [hm] at h0
    refine AC.N Tryz.func103 Tryz.ntmps103 ?_
    intro X hρ hmks
    simp only [nx,Nat.reduceAdd,Nat.reduceSub,BEq.rfl]
    refine CP.gh gh_slot ?_;simp only [nx,Nat.reduceAdd,Nat.reduceSub,BEq.rfl]
    refine CP.gh gh_slot ?_;simp only [nx,Nat.reduceAdd,Nat.reduceSub,BEq.rfl]
    refine CP.gh gh_slot ?_;simp only [nx,Nat.reduceAdd,Nat.reduceSub,BEq.rfl]
    repeat' (first|((first|((with_reducible apply AP.k_any);first|refine AP.S ?_|refine AP.A ?_|refine AP.AB 0 ?_|refine AP.AB 1 ?_|refine AP.AL ?_|refine AP.LB ?_|refine AP.TB ?_|refine AP.IX ?_|refine AP.SF ?_|refine AP.SV ?_|refine AP.CV ?_|refine AP.CO ?_|refine AP.FV ?_|((with_reducible apply AP.k_any);refine AP.B 2 (h1) ?_)|((with_reducible apply AP.k_any);refine AP.B 0 (h2) ?_)|((with_reducible apply AP.k_any);refine AP.B 0 (h3) ?_)|refine AP.PF ?_)|((with_reducible apply DW.k_any);first|refine DW.R ?_|refine DW.R' ?_|refine DW.W ?_|refine DW.W' ?_|refine DW.RA ?_|refine DW.A 0 ?_|refine DW.A 1 ?_|refine DW.A 2 ?_|refine DW.A' 0 ?_|refine DW.A' 2 ?_|((fail_if_success refine DW.known rfl ?_);refine DW.G (fun hg=>?_) (fun hg=>?_))|refine DW.RX ?_|refine DW.WX ?_|refine DW.WX' ?_)|((with_reducible apply DW.k_any);first|refine DW.R ?_|refine DW.R' ?_|refine DW.W ?_|refine DW.W' ?_|(refine DW.known rfl ?_;(with_reducible first|apply DW.sx 2|apply DW.sxN 2);(iterate 2 (focus (simp only [ft,nm,Nat.reduceAdd,Nat.reduceBEq,List.getElem?_cons_zero,List.getElem?_cons_succ];exact rfl)));(focus (intro X V;simp only [ft,nm,Nat.reduceAdd,Nat.reduceBEq];(try (refine AP.Y ?_;dsimp only));(first|((with_reducible apply AP.k_any);refine AP.B 2 (h1) ?_)|((with_reducible apply AP.k_any);refine AP.B 0 (h2) ?_)|((with_reducible apply AP.k_any);refine AP.B 0 (h3) ?_)|fail);(try simp only [nx,Nat.reduceAdd,Nat.reduceSub,BEq.rfl]);refine AP.nil ?_;(first|refine ⟨trivial,rfl,?_⟩|refine ⟨rfl,rfl,?_⟩);(repeat' (first|exact Mg.nil|apply Mg.keep rfl|apply Mg.take rfl));done));(focus (refine Exists.intro (fun _=>0) ?_;apply Exists.intro;(repeat' (first|exact Mg.nil|apply Mg.keep rfl|apply Mg.take rfl));done));(iterate 2 (focus (exact rfl))))|((fail_if_success refine DW.known rfl ?_);refine DW.G (fun hg=>?_) (fun hg=>?_))))<;>(try simp only [nx,q4,rn,fq,Nat.mul_one,Bool.and_true,Bool.and_false,Nat.reduceBEq,Nat.reduceAdd,Nat.reduceSub,BEq.rfl]))|((with_reducible apply AP.k_nil);first|(refine AP.nil (hQ' _ ?_);clear hQ' Q')|refine AP.nil ?_)|((with_reducible apply CP.k_drw);refine cp_drwX fun Q' hQ'=>?_)|((with_reducible apply CP.k_drw1);refine cp_drawX ?_)|((with_reducible apply DW.k_nil);refine DW.nl ?_;first|(refine hQ' _ ?_;clear hQ' Q')|skip)|((with_reducible apply CP.k_reg);refine cp_regG fun Q' hQ'=>?_)|refine CP.W ?_|refine cp_cond rfl (fun hc=>?_) (fun hc=>?_)|(simp only [List.append_eq,List.cons_append,List.nil_append]))
    (exact RetQ.A [] (by exact ⟨rfl,rfl⟩))
  | false=>
    rw [hm] at h0
    refine AC.N Tryz.func103 Tryz.ntmps103 ?_
    intro X hρ hmks
    simp only [nx,Nat.reduceAdd,Nat.reduceSub,BEq.rfl]
    repeat' (first|((first|((with_reducible apply AP.k_any);first|refine AP.S ?_|refine AP.A ?_|refine AP.AB 0 ?_|refine AP.AB 1 ?_|refine AP.AL ?_|refine AP.LB ?_|refine AP.TB ?_|refine AP.IX ?_|refine AP.SF ?_|refine AP.SV ?_|refine AP.CV ?_|refine AP.CO ?_|refine AP.FV ?_|refine AP.PF ?_)|((with_reducible apply DW.k_any);first|refine DW.R ?_|refine DW.R' ?_|refine DW.W ?_|refine DW.W' ?_|refine DW.RA ?_|refine DW.A 0 ?_|refine DW.A 1 ?_|refine DW.A 2 ?_|refine DW.A' 0 ?_|refine DW.A' 2 ?_|((fail_if_success refine DW.known rfl ?_);refine DW.G (fun hg=>?_) (fun hg=>?_))|refine DW.RX ?_|refine DW.WX ?_|refine DW.WX' ?_)|((with_reducible apply DW.k_any);first|refine DW.R ?_|refine DW.R' ?_|refine DW.W ?_|refine DW.W' ?_|(refine DW.known rfl ?_;(with_reducible first|apply DW.sx 2|apply DW.sxN 2);(iterate 2 (focus (simp only [ft,nm,Nat.reduceAdd,Nat.reduceBEq,List.getElem?_cons_zero,List.getElem?_cons_succ];exact rfl)));(focus (intro X V;simp only [ft,nm,Nat.reduceAdd,Nat.reduceBEq];(try (refine AP.Y ?_;dsimp only));(first|fail);(try simp only [nx,Nat.reduceAdd,Nat.reduceSub,BEq.rfl]);refine AP.nil ?_;(first|refine ⟨trivial,rfl,?_⟩|refine ⟨rfl,rfl,?_⟩);(repeat' (first|exact Mg.nil|apply Mg.keep rfl|apply Mg.take rfl));done));(focus (refine Exists.intro (fun _=>0) ?_;apply Exists.intro;(repeat' (first|exact Mg.nil|apply Mg.keep rfl|apply Mg.take rfl));done));(iterate 2 (focus (exact rfl))))|((fail_if_success refine DW.known rfl ?_);refine DW.G (fun hg=>?_) (fun hg=>?_))))<;>(try simp only [nx,q4,rn,fq,Nat.mul_one,Bool.and_true,Bool.and_false,Nat.reduceBEq,Nat.reduceAdd,Nat.reduceSub,BEq.rfl]))|((with_reducible apply AP.k_nil);first|(refine AP.nil (hQ' _ ?_);clear hQ' Q')|refine AP.nil ?_)|((with_reducible apply CP.k_drw);refine cp_drwX fun Q' hQ'=>?_)|((with_reducible apply CP.k_drw1);refine cp_drawX ?_)|((with_reducible apply DW.k_nil);refine DW.nl ?_;first|(refine hQ' _ ?_;clear hQ' Q')|skip)|((with_reducible apply CP.k_reg);refine cp_regG fun Q' hQ'=>?_)|refine CP.W ?_|refine cp_cond rfl (fun hc=>?_) (fun hc=>?_)|(simp only [List.append_eq,List.cons_append,List.nil_append]))
    (exact RetQ.A [] (by exact ⟨rfl,rfl⟩))
end Go.Proofs.YtmgneincjfhaoaaGreat

namespace Go.Proofs.YtmgneincjfhaoaaGreat
set_option linter.unusedVariables false
set_option linter.unusedSimpArgs false
set_option maxHeartbeats 8000000
open Go.RowKit
set_option maxRecDepth 100000
theorem sclone_ac (a:List UInt8) (ha:a.length≤100000000) :
    AC Tryz.prog 52 [bs none a] [] (fun v bs'=>v=bs (some tU) a∧bs'=[]):=by
  refine AC.N Tryz.func52 Tryz.ntmps52 ?_
  intro X hρ hmks
  simp only [nx,Nat.reduceAdd,Nat.reduceSub,BEq.rfl]
  repeat' (first|((first|((with_reducible apply AP.k_any);first|refine AP.S ?_|(refine AP.V (fun c hnil=>?_);simp only [nz])))<;>(try simp only [nx,Nat.reduceAdd,Nat.reduceSub,BEq.rfl]))|((with_reducible apply AP.k_nil);first|(refine AP.nil (hQ' _ ?_);clear hQ' Q')|refine AP.nil ?_)|((with_reducible apply CP.k_reg);refine cp_regG fun Q' hQ'=>?_)|refine CP.W ?_|refine cp_cond rfl (fun hc=>?_) (fun hc=>?_)|(simp only [List.append_eq,List.cons_append,List.nil_append]))
  · obtain rfl:a=[]:=by simpa using hnil hc
    (exact RetQ.A [] (by exact ⟨rfl,rfl⟩))
  · (refine RetQ.B [] ?_;(try dsimp only [resV,List.getD_cons_succ,List.getD_cons_zero]);(exact ⟨by simp,rfl⟩))
theorem nr_tg (t:List UInt8):NR (tg t):=by
  apply NR.ag
  intro a ha
  rw [←mixT_32] at ha
  obtain ⟨j,_,rfl⟩:=List.mem_map.1 ha
  exact NR.sc
theorem seal_ac (root:List UInt8) (p:Pkt) (hr:root.length≤10000) (hp:p.body.length≤60000):AC Tryz.prog 104 [bs none root,.ag (eP p)] [] (fun v bs'=>v=.ag (ePO { p with tag:=tagS root p })∧bs'=[]):=by
  have h1:=sclone_ac p.body (by omega)
  have h2:=ltag_ac root p hr hp
  generalize tagS root p=t at *
  refine AC.N Tryz.func104 Tryz.ntmps104 ?_
  intro X hρ hmks
  simp only [nx,Nat.reduceAdd,Nat.reduceSub,BEq.rfl]
  refine CP.gh gh_slot ?_;simp only [nx,Nat.reduceAdd,Nat.reduceSub,BEq.rfl]
  refine CP.gh gh_slot ?_;simp only [nx,Nat.reduceAdd,Nat.reduceSub,BEq.rfl]
  repeat' (first|((first|((with_reducible apply AP.k_any);first|refine AP.S ?_|refine AP.A ?_|refine AP.AB 0 ?_|refine AP.AB 1 ?_|refine AP.AL ?_|refine AP.LB ?_|refine AP.TB ?_|refine AP.IX ?_|refine AP.SF ?_|refine AP.SV ?_|refine AP.CV ?_|refine AP.CO ?_|refine AP.FV ?_|((with_reducible apply AP.k_any);refine AP.CL (h2) (hnr:=nr_tg t) ?_)|refine AP.PF ?_))<;>(try simp only [nx,q4,rn,fq,Nat.mul_one,Bool.and_true,Bool.and_false,Nat.reduceBEq,Nat.reduceAdd,Nat.reduceSub,BEq.rfl]))|((with_reducible apply AP.k_nil);first|(refine AP.nil (hQ' _ ?_);clear hQ' Q')|refine AP.nil ?_)|((with_reducible apply CP.k_reg);refine cp_regG fun Q' hQ'=>?_)|refine CP.W ?_|refine cp_cond rfl (fun hc=>?_) (fun hc=>?_)|(simp only [List.append_eq,List.cons_append,List.nil_append]))
  (refine RetQ.B [] ?_;(try dsimp only [resV,List.getD_cons_succ,List.getD_cons_zero]);(exact ⟨rfl,rfl⟩))
theorem headS_num (p:Pkt):headS p=numS [p.frm,p.to,p.epoch,p.boot,p.seqn] ++ (putS p.body.length 4 ++ p.body):=by
  simp [headS,numS]
end Go.Proofs.YtmgneincjfhaoaaGreat

namespace Go.Proofs.YtmgneincjfhaoaaGreat
set_option linter.unusedVariables false
set_option linter.unusedSimpArgs false
set_option maxHeartbeats 8000000
open Go.RowKit
set_option maxRecDepth 100000
abbrev Sd:=Int×Int
abbrev kS (p:Sd):Value:=.agg #[.int .i64 p.1,.int .i64 p.2]
structure Ends where
  root:List UInt8
  who:Int
  boot:Int
  sent:List (Sd×Int)
  wins:List (Sd×Wn)
abbrev tEn:TypeId:=109
abbrev keyN (l:List (Sd×Int)):List Value:=l.map fun p=>kS p.1
abbrev rowN (l:List (Sd×Int)):List (List AV):=l.map fun p=>[I p.2]
abbrev keyW (l:List (Sd×Wn)):List Value:=l.map fun p=>kS p.1
abbrev rowW (l:List (Sd×Wn)):List (List AV):=l.map fun p=>[.ob tWn (wC p.2)]
abbrev enE (x:Ends):List AV:=[B true,bs none x.root,I x.who,I x.boot,.mo (keyN x.sent) (rowN x.sent),.mo (keyW x.wins) (rowW x.wins)]
abbrev xE (x:Ends):Bx:=.c tEn (enE x)
theorem lnew_ac (root:List UInt8) (who boot:Int) (hr:root.length≤100000000):AC Tryz.prog 24 [bs none root,I who,I boot] [] (fun v bs'=>v=.bp 0 0 0∧bs'=[xE ⟨root,who,boot,[],[]⟩]):=by
  have h1:=sclone_ac root hr
  refine AC.N Tryz.func24 Tryz.ntmps24 ?_
  intro X hρ hmks
  simp only [nx,Nat.reduceAdd,Nat.reduceSub,BEq.rfl]
  refine CP.gh gh_slot ?_;simp only [nx,Nat.reduceAdd,Nat.reduceSub,BEq.rfl]
  refine CP.gh gh_slot ?_;simp only [nx,Nat.reduceAdd,Nat.reduceSub,BEq.rfl]
  refine CP.gh gh_slot ?_;simp only [nx,Nat.reduceAdd,Nat.reduceSub,BEq.rfl]
  refine CP.gh gh_slot ?_;simp only [nx,Nat.reduceAdd,Nat.reduceSub,BEq.rfl]
  repeat' (first|((first|((with_reducible apply AP.k_any);first|refine AP.ST ?_|(refine AP.Y ?_;dsimp only)|refine AP.G (fun hg=>?_) (fun hg=>?_)|(refine AP.V (fun c hnil=>?_);simp only [nz])|refine AP.PF ?_))<;>(try simp only [nx,mx,rn,fq,Nat.mul_one,Bool.and_true,Bool.and_false,Nat.reduceBEq,Nat.reduceAdd,Nat.reduceSub,BEq.rfl]))|((with_reducible apply AP.k_nil);first|(refine AP.nil (hQ' _ ?_);clear hQ' Q')|refine AP.nil ?_)|((with_reducible apply CP.k_reg);refine cp_regG fun Q' hQ'=>?_)|refine CP.W ?_|refine cp_cond rfl (fun hc=>?_) (fun hc=>?_)|(simp only [List.append_eq,List.cons_append,List.nil_append]))
  (exact RetQ.Fz [(3,1)] (by exact ⟨rfl,rfl⟩))
theorem lnone_ac (x:Ends):AC Tryz.prog 75 [.bp 0 0 0] [xE x] (fun v bs'=>v=B false∧bs'=[xE x]):=by
  refine AC.N Tryz.func75 Tryz.ntmps75 ?_
  intro X hρ hmks
  simp only [nx,Nat.reduceAdd,Nat.reduceSub,BEq.rfl]
  repeat' (first|((first|((with_reducible apply AP.k_any);first|refine AP.ST ?_|(refine AP.Y ?_;dsimp only)|refine AP.G (fun hg=>?_) (fun hg=>?_)|(refine AP.V (fun c hnil=>?_);simp only [nz])|refine AP.PF ?_))<;>(try simp only [nx,mx,rn,fq,Nat.mul_one,Bool.and_true,Bool.and_false,Nat.reduceBEq,Nat.reduceAdd,Nat.reduceSub,BEq.rfl]))|((with_reducible apply AP.k_nil);first|(refine AP.nil (hQ' _ ?_);clear hQ' Q')|refine AP.nil ?_)|((with_reducible apply CP.k_reg);refine cp_regG fun Q' hQ'=>?_)|refine CP.W ?_|refine cp_cond rfl (fun hc=>?_) (fun hc=>?_)|(simp only [List.append_eq,List.cons_append,List.nil_append]))
  (exact RetQ.A [(0,0)] (by exact ⟨rfl,rfl⟩))
end Go.Proofs.YtmgneincjfhaoaaGreat

namespace Go.Proofs.YtmgneincjfhaoaaGreat
set_option linter.unusedVariables false
set_option linter.unusedSimpArgs false
open Go.RowKit
set_option maxRecDepth 100000
abbrev tSd:TypeId:=138
theorem kin (l:List Value) (h:∀ k∈l,∃ p:Sd,k=kS p):∀ k∈l,isKey Tryz.prog tSd [.i .i64,.i .i64] k=true:=fun k hk=>by
  obtain ⟨p,rfl⟩:=h k hk
  have hA:aggT Tryz.prog tSd=true:=by kernel_rfl
  unfold isKey
  rw [hA];rfl
theorem kinS {α:Type} (l:List (Sd×α)):∀ k∈l.map (fun p=>kS p.1),isKey Tryz.prog tSd [.i .i64,.i .i64] k=true:=kin _ fun k hk=>by
  obtain ⟨p,_,rfl⟩:=List.mem_map.1 hk
  exact ⟨_,rfl⟩
theorem kEq_kS (a b:Sd):kEq (kS a) (kS b)=decide (a=b):=by
  obtain ⟨a1,a2⟩:=a
  obtain ⟨b1,b2⟩:=b
  simp only [kEq,eqVs,eqV1,Bool.and_true]
  rw [Bool.eq_iff_iff];simp
/-- where a side stands -/
def at_ {α:Type} (s:Sd):List (Sd×α)→Option Nat
  | []=>none
  | p :: l=>if s=p.1 then some 0 else (at_ s l).map (· + 1)
theorem fnd_at_ {α:Type} (s:Sd):∀ l:List (Sd×α),fnd (kS s) (l.map fun p=>kS p.1)=at_ s l
  | []=>rfl
  | p :: l=>by
    simp only [List.map_cons,fnd,kEq_kS,at_,fnd_at_ s l]
    by_cases h:s=p.1
    · simp [h]
    · simp only [h,decide_false,if_false]
      cases at_ s l<;>rfl
theorem at_some {α:Type} {s:Sd}:∀ {l:List (Sd×α)} {n:Nat},at_ s l=some n→∃ x,l[n]? = some (s,x)
  | [],_,h=>by simp [at_] at h
  | p :: l,n,h=>by
    unfold at_ at h
    split at h
    · rename_i hs;injection h with h;subst h;exact ⟨p.2,by simp [hs]⟩
    · obtain ⟨m,hm,rfl⟩:=Option.map_eq_some_iff.1 h
      obtain ⟨x,hx⟩:=at_some hm
      exact ⟨x,by simpa using hx⟩
/-- a side's, or what stands for none -/
def got {α:Type} (s:Sd) (l:List (Sd×α)) (d:α):α:=match at_ s l with
  | some n=>match l[n]? with
    | some p=>p.2
    | none=>d
  | none=>d
def puts {α:Type} (s:Sd) (l:List (Sd×α)) (v:α):List (Sd×α):=match at_ s l with
  | some n=>l.set n (s,v)
  | none=>l ++ [(s,v)]
def Ends.pkt (x:Ends) (to epoch:Int) (body:List UInt8):Pkt:=⟨x.who,to,epoch,x.boot,got (to,epoch) x.sent 0 + 1,body,List.replicate 32 0⟩
def Ends.sealed (x:Ends) (to epoch:Int) (body:List UInt8):Pkt:={ x.pkt to epoch body with tag:=tagS x.root (x.pkt to epoch body) }
def Ends.bump (x:Ends) (to epoch:Int):Ends:={ x with sent:=puts (to,epoch) x.sent (got (to,epoch) x.sent 0 + 1) }
theorem print_acO (p:Pkt) (hp:p.body.length≤60000) (ht:p.tag.length=32):AC Tryz.prog 103 [.ag (ePO p)] [] (fun v bs'=>v=.tu [if mayP p then bs none (headS p ++ p.tag) else bs none [],I (if mayP p then 0 else 2)]∧bs'=[]):=by
  refine AC.own ?_
  have e:roC [.ag (ePO p)]=[.ag (eP p)]:=by
    simp only [roC,AV.ro,ePO,eP,tagC,List.cons_append,List.nil_append,ro_B]
  rw [e]
  exact lprint_ac p hp ht
theorem tagC_z:tagC (List.replicate 32 0)=[.sc (.int .u8 0),.sc (.int .u8 0),.sc (.int .u8 0),.sc (.int .u8 0),.sc (.int .u8 0),.sc (.int .u8 0),.sc (.int .u8 0),.sc (.int .u8 0),.sc (.int .u8 0),.sc (.int .u8 0),.sc (.int .u8 0),.sc (.int .u8 0),.sc (.int .u8 0),.sc (.int .u8 0),.sc (.int .u8 0),.sc (.int .u8 0),.sc (.int .u8 0),.sc (.int .u8 0),.sc (.int .u8 0),.sc (.int .u8 0),.sc (.int .u8 0),.sc (.int .u8 0),.sc (.int .u8 0),.sc (.int .u8 0),.sc (.int .u8 0),.sc (.int .u8 0),.sc (.int .u8 0),.sc (.int .u8 0),.sc (.int .u8 0),.sc (.int .u8 0),.sc (.int .u8 0),.sc (.int .u8 0)]:=by
  have h:∀ i,i < 32→(List.replicate 32 (0:UInt8)).getD i 0=0:=fun i hi=>by rw [List.getD_eq_getElem?_getD,List.getElem?_replicate,if_pos hi];rfl
  have h0:(((0:UInt8).toNat:Nat):Int)=0:=rfl
  simp only [tagC,h _ (by decide:0 < 32),h _ (by decide:1 < 32),h _ (by decide:2 < 32),h _ (by decide:3 < 32),h _ (by decide:4 < 32),h _ (by decide:5 < 32),h _ (by decide:6 < 32),h _ (by decide:7 < 32),h _ (by decide:8 < 32),h _ (by decide:9 < 32),h _ (by decide:10 < 32),h _ (by decide:11 < 32),h _ (by decide:12 < 32),h _ (by decide:13 < 32),h _ (by decide:14 < 32),h _ (by decide:15 < 32),h _ (by decide:16 < 32),h _ (by decide:17 < 32),h _ (by decide:18 < 32),h _ (by decide:19 < 32),h _ (by decide:20 < 32),h _ (by decide:21 < 32),h _ (by decide:22 < 32),h _ (by decide:23 < 32),h _ (by decide:24 < 32),h _ (by decide:25 < 32),h _ (by decide:26 < 32),h _ (by decide:27 < 32),h _ (by decide:28 < 32),h _ (by decide:29 < 32),h _ (by decide:30 < 32),h _ (by decide:31 < 32),U,h0]
theorem eP_z (f t e b s:Int) (y:List UInt8):eP ⟨f,t,e,b,s,y,List.replicate 32 0⟩=[I f,I t,I e,I b,I s,bs none y,.sc (.int .u8 0),.sc (.int .u8 0),.sc (.int .u8 0),.sc (.int .u8 0),.sc (.int .u8 0),.sc (.int .u8 0),.sc (.int .u8 0),.sc (.int .u8 0),.sc (.int .u8 0),.sc (.int .u8 0),.sc (.int .u8 0),.sc (.int .u8 0),.sc (.int .u8 0),.sc (.int .u8 0),.sc (.int .u8 0),.sc (.int .u8 0),.sc (.int .u8 0),.sc (.int .u8 0),.sc (.int .u8 0),.sc (.int .u8 0),.sc (.int .u8 0),.sc (.int .u8 0),.sc (.int .u8 0),.sc (.int .u8 0),.sc (.int .u8 0),.sc (.int .u8 0),.sc (.int .u8 0),.sc (.int .u8 0),.sc (.int .u8 0),.sc (.int .u8 0),.sc (.int .u8 0),.sc (.int .u8 0)]:=congrArg (fun l=>I f :: I t :: I e :: I b :: I s :: bs none y :: l) tagC_z
theorem mayP_tag (p:Pkt) (t:List UInt8):mayP { p with tag:=t }=mayP p:=rfl
theorem headS_tag (p:Pkt) (t:List UInt8):headS { p with tag:=t }=headS p:=rfl
theorem puts_keys {α:Type} {s:Sd} {l:List (Sd×α)} {n:Nat} (h:at_ s l=some n) (v:α):(l.set n (s,v)).map (fun p=>kS p.1)=l.map fun p=>kS p.1:=by
  obtain ⟨x,hx⟩:=at_some h
  apply List.ext_getElem?
  intro i
  rw [List.getElem?_map,List.getElem?_map,List.getElem?_set]
  split
  · rename_i hi;subst hi
    rw [hx,if_pos (List.getElem?_eq_some_iff.1 hx).1];rfl
  · rfl
end Go.Proofs.YtmgneincjfhaoaaGreat

namespace Go.Proofs.YtmgneincjfhaoaaGreat
set_option linter.unusedVariables false
set_option linter.unusedSimpArgs false
set_option maxHeartbeats 8000000
open Go.RowKit
set_option maxRecDepth 100000
theorem send_no (x:Ends) (to epoch:Int) (body:List UInt8) (hr:x.root.length≤10000) (hb:body.length≤60000) (hn:0≤got (to,epoch) x.sent 0∧got (to,epoch) x.sent 0≤1000000000) (hm:mayP (x.pkt to epoch body)=false) :
    AC Tryz.prog 58 [.bp 0 0 0,I to,I epoch,bs none body] [xE x] (fun v bs'=>v=.tu [bs none [],I 2]∧bs'=[xE x]):=by
  have hm':mayP (x.sealed to epoch body)=false:=(mayP_tag _ _).trans hm
  have h1:=lnone_ac x
  have h2:=seal_ac x.root (x.pkt to epoch body) hr hb
  have h3:=print_acO (x.sealed to epoch body) hb (tagS_len _ _)
  have hk:=kinS x.sent
  have hf:=fnd_at_ (to,epoch) x.sent
  rw [hm'] at h3
  simp only [Bool.false_eq_true,if_false] at h3
  have hw:IntKind.i64.wrap (got (to,epoch) x.sent 0 + 1)=got (to,epoch) x.sent 0 + 1:=wrap_i64 (by omega) (by omega)
  unfold Ends.sealed at *
  generalize tagS x.root (x.pkt to epoch body)=T at *
  unfold Ends.pkt at *
  rw [eP_z] at h2
  cases ha:at_ (to,epoch) x.sent with
  | none=>
    have hg:got (to,epoch) x.sent 0=0:=by unfold got;rw [ha]
    rw [ha] at hf
    rw [hg] at hw h2 h3
    refine AC.N Tryz.func58 Tryz.ntmps58 ?_
    intro X hρ hmks
    simp only [nx,Nat.reduceAdd,Nat.reduceSub,BEq.rfl]
    refine CP.gh gh_slot ?_;simp only [nx,Nat.reduceAdd,Nat.reduceSub,BEq.rfl]
    refine CP.gh gh_slot ?_;simp only [nx,Nat.reduceAdd,Nat.reduceSub,BEq.rfl]
    refine CP.gh gh_slot ?_;simp only [nx,Nat.reduceAdd,Nat.reduceSub,BEq.rfl]
    repeat' (first|((first|((with_reducible apply AP.k_any);first|refine AP.ST ?_|(refine AP.Y ?_;dsimp only)|refine AP.G (fun hg=>?_) (fun hg=>?_)|(refine AP.V (fun c hnil=>?_);simp only [nz])|refine AP.PF ?_)|((with_reducible apply DW.k_any);first|refine DW.ST ?_|((fail_if_success refine DW.known rfl ?_);refine DW.G (fun hg=>?_) (fun hg=>?_))))<;>(try simp only [hw,nx,mx,rn,fq,Nat.mul_one,Bool.and_true,Bool.and_false,Nat.reduceBEq,Nat.reduceAdd,Nat.reduceSub,BEq.rfl]))|((with_reducible apply AP.k_nil);first|(refine AP.nil (hQ' _ ?_);clear hQ' Q')|refine AP.nil ?_)|((with_reducible apply CP.k_drw);refine cp_drwX fun Q' hQ'=>?_)|((with_reducible apply CP.k_drw1);refine cp_drawX ?_)|((with_reducible apply DW.k_nil);refine DW.nl ?_;first|(refine hQ' _ ?_;clear hQ' Q')|skip)|((with_reducible apply CP.k_reg);refine cp_regG fun Q' hQ'=>?_)|refine CP.W ?_|refine cp_cond rfl (fun hc=>?_) (fun hc=>?_)|(simp only [List.append_eq,List.cons_append,List.nil_append]))
    (exact RetQ.A [(0,0)] (by exact ⟨rfl,rfl⟩))
  | some n=>
    obtain ⟨v,hv⟩:=at_some ha
    have hg:got (to,epoch) x.sent 0=v:=by unfold got;rw [ha];dsimp only;rw [hv]
    have hro:=rowAt_map (e:=fun p:Sd×Int=>[I p.2]) hv rfl
    rw [ha] at hf
    rw [hg] at hw h2 h3
    refine AC.N Tryz.func58 Tryz.ntmps58 ?_
    intro X hρ hmks
    simp only [nx,Nat.reduceAdd,Nat.reduceSub,BEq.rfl]
    refine CP.gh gh_slot ?_;simp only [nx,Nat.reduceAdd,Nat.reduceSub,BEq.rfl]
    refine CP.gh gh_slot ?_;simp only [nx,Nat.reduceAdd,Nat.reduceSub,BEq.rfl]
    refine CP.gh gh_slot ?_;simp only [nx,Nat.reduceAdd,Nat.reduceSub,BEq.rfl]
    repeat' (first|((first|((with_reducible apply AP.k_any);first|refine AP.ST ?_|(refine AP.Y ?_;dsimp only)|refine AP.G (fun hg=>?_) (fun hg=>?_)|(refine AP.V (fun c hnil=>?_);simp only [nz])|refine AP.PF ?_)|((with_reducible apply DW.k_any);first|refine DW.ST ?_|((fail_if_success refine DW.known rfl ?_);refine DW.G (fun hg=>?_) (fun hg=>?_))))<;>(try simp only [hw,nx,mx,rn,fq,Nat.mul_one,Bool.and_true,Bool.and_false,Nat.reduceBEq,Nat.reduceAdd,Nat.reduceSub,BEq.rfl]))|((with_reducible apply AP.k_nil);first|(refine AP.nil (hQ' _ ?_);clear hQ' Q')|refine AP.nil ?_)|((with_reducible apply CP.k_drw);refine cp_drwX fun Q' hQ'=>?_)|((with_reducible apply CP.k_drw1);refine cp_drawX ?_)|((with_reducible apply DW.k_nil);refine DW.nl ?_;first|(refine hQ' _ ?_;clear hQ' Q')|skip)|((with_reducible apply CP.k_reg);refine cp_regG fun Q' hQ'=>?_)|refine CP.W ?_|refine cp_cond rfl (fun hc=>?_) (fun hc=>?_)|(simp only [List.append_eq,List.cons_append,List.nil_append]))
    (exact RetQ.A [(0,0)] (by exact ⟨rfl,rfl⟩))
theorem send_ok (x:Ends) (to epoch:Int) (body:List UInt8) (hr:x.root.length≤10000) (hb:body.length≤60000) (hn:0≤got (to,epoch) x.sent 0∧got (to,epoch) x.sent 0≤1000000000) (hm:mayP (x.pkt to epoch body)=true) :
    AC Tryz.prog 58 [.bp 0 0 0,I to,I epoch,bs none body] [xE x] (fun v bs'=>v=.tu [bs none (headS (x.pkt to epoch body) ++ tagS x.root (x.pkt to epoch body)),I 0]∧bs'=[xE (x.bump to epoch)]):=by
  have hm':mayP (x.sealed to epoch body)=true:=(mayP_tag _ _).trans hm
  have h1:=lnone_ac x
  have h2:=seal_ac x.root (x.pkt to epoch body) hr hb
  have h3:=print_acO (x.sealed to epoch body) hb (tagS_len _ _)
  have hk:=kinS x.sent
  have hf:=fnd_at_ (to,epoch) x.sent
  rw [hm'] at h3
  simp only [if_true] at h3
  have hw:IntKind.i64.wrap (got (to,epoch) x.sent 0 + 1)=got (to,epoch) x.sent 0 + 1:=wrap_i64 (by omega) (by omega)
  rw [show headS (x.sealed to epoch body)=headS (x.pkt to epoch body) from headS_tag _ _] at h3
  unfold Ends.sealed at *
  generalize headS (x.pkt to epoch body)=hd at *
  generalize tagS x.root (x.pkt to epoch body)=T at *
  unfold Ends.pkt at *
  rw [eP_z] at h2
  dsimp only at h3
  generalize hd ++ T=y at *
  cases ha:at_ (to,epoch) x.sent with
  | none=>
    have hg:got (to,epoch) x.sent 0=0:=by unfold got;rw [ha]
    have e1:xE (x.bump to epoch)=.c tEn [B true,bs none x.root,I x.who,I x.boot,.mo (keyN x.sent ++ [kS (to,epoch)]) ((rowN x.sent ++ [[I 0]]).set x.sent.length [I 1]),.mo (keyW x.wins) (rowW x.wins)]:=by
      have e2:(rowN x.sent ++ [[I 0]]).set x.sent.length [I 1]=rowN x.sent ++ [[I 1]]:=by
        rw [List.set_append_right _ _ (by simp)];simp
      rw [e2]
      unfold Ends.bump puts
      rw [hg,ha]
      simp only [xE,enE,keyN,rowN,List.map_append,List.map_cons,List.map_nil]
      rfl
    rw [e1]
    have hk1:∀ k∈keyN x.sent ++ [kS (to,epoch)],isKey Tryz.prog tSd [.i .i64,.i .i64] k=true:=kin _ fun k hk=>by
      rcases List.mem_append.1 hk with hk|hk
      · obtain ⟨p,_,rfl⟩:=List.mem_map.1 hk;exact ⟨_,rfl⟩
      · simp at hk;exact ⟨_,hk⟩
    have hf1:fnd (kS (to,epoch)) (keyN x.sent ++ [kS (to,epoch)])=some x.sent.length:=by
      rw [fnd_app (by rw [hf,ha])]
      simp [fnd,kEq_kS]
    have hro1:rowAt (rowN x.sent ++ [[I 0]]) none x.sent.length=some (I 0):=by
      simp [rowAt,AV.cp]
    rw [ha] at hf
    rw [hg] at hw h2 h3
    have hw0:IntKind.i64.wrap (0 + 1)=1:=rfl
    refine AC.N Tryz.func58 Tryz.ntmps58 ?_
    intro X hρ hmks
    simp only [nx,Nat.reduceAdd,Nat.reduceSub,BEq.rfl]
    refine CP.gh gh_slot ?_;simp only [nx,Nat.reduceAdd,Nat.reduceSub,BEq.rfl]
    refine CP.gh gh_slot ?_;simp only [nx,Nat.reduceAdd,Nat.reduceSub,BEq.rfl]
    refine CP.gh gh_slot ?_;simp only [nx,Nat.reduceAdd,Nat.reduceSub,BEq.rfl]
    repeat' (first|((first|((with_reducible apply AP.k_any);first|refine AP.ST ?_|(refine AP.Y ?_;dsimp only)|refine AP.G (fun hg=>?_) (fun hg=>?_)|(refine AP.V (fun c hnil=>?_);simp only [nz])|refine AP.PF ?_))<;>(try simp only [hw,nx,mx,rn,fq,Nat.mul_one,Bool.and_true,Bool.and_false,Nat.reduceBEq,Nat.reduceAdd,Nat.reduceSub,BEq.rfl]))|((with_reducible apply AP.k_nil);first|(refine AP.nil (hQ' _ ?_);clear hQ' Q')|refine AP.nil ?_)|((with_reducible apply CP.k_reg);refine cp_regG fun Q' hQ'=>?_)|refine CP.W ?_|refine cp_cond rfl (fun hc=>?_) (fun hc=>?_)|(simp only [List.append_eq,List.cons_append,List.nil_append]))
    first|refine cp_drwX fun Q' hQ'=>?_|refine cp_drawX ?_
    repeat' (first|((first|((with_reducible apply AP.k_any);first|refine AP.ST ?_|(refine AP.Y ?_;dsimp only)|refine AP.G (fun hg=>?_) (fun hg=>?_)|(refine AP.V (fun c hnil=>?_);simp only [nz])|refine AP.PF ?_)|((with_reducible apply DW.k_any);first|refine DW.ST ?_|((fail_if_success refine DW.known rfl ?_);refine DW.G (fun hg=>?_) (fun hg=>?_))))<;>(try simp only [hw,nx,mx,rn,fq,Nat.mul_one,Bool.and_true,Bool.and_false,Nat.reduceBEq,Nat.reduceAdd,Nat.reduceSub,BEq.rfl]))|((with_reducible apply AP.k_nil);first|(refine AP.nil (hQ' _ ?_);clear hQ' Q')|refine AP.nil ?_)|((with_reducible apply DW.k_nil);refine DW.nl ?_;first|(refine hQ' _ ?_;clear hQ' Q')|skip)|((with_reducible apply CP.k_reg);refine cp_regG fun Q' hQ'=>?_)|refine CP.W ?_|refine cp_cond rfl (fun hc=>?_) (fun hc=>?_)|(simp only [List.append_eq,List.cons_append,List.nil_append]))
    first|refine cp_drwX fun Q' hQ'=>?_|refine cp_drawX ?_
    repeat' (first|((first|((with_reducible apply AP.k_any);first|refine AP.ST ?_|(refine AP.Y ?_;dsimp only)|refine AP.G (fun hg=>?_) (fun hg=>?_)|(refine AP.V (fun c hnil=>?_);simp only [nz])|refine AP.PF ?_)|((with_reducible apply DW.k_any);first|refine DW.ST ?_|((fail_if_success refine DW.known rfl ?_);refine DW.G (fun hg=>?_) (fun hg=>?_))))<;>(try simp only [hw,nx,mx,rn,fq,Nat.mul_one,Bool.and_true,Bool.and_false,Nat.reduceBEq,Nat.reduceAdd,Nat.reduceSub,BEq.rfl]))|((with_reducible apply AP.k_nil);first|(refine AP.nil (hQ' _ ?_);clear hQ' Q')|refine AP.nil ?_)|((with_reducible apply DW.k_nil);refine DW.nl ?_;first|(refine hQ' _ ?_;clear hQ' Q')|skip)|((with_reducible apply CP.k_reg);refine cp_regG fun Q' hQ'=>?_)|refine CP.W ?_|refine cp_cond rfl (fun hc=>?_) (fun hc=>?_)|(simp only [List.append_eq,List.cons_append,List.nil_append]))
    refine cp_drawI (fun zs zb=>⟨setT zs.t [(50,cond (zb.getD 0 false) (.bp 0 0 0) (.tu [])),(51,cond (zb.getD 1 false) (.bp 0 0 0) (.tu [])),(52,cond (zb.getD 2 false) (.bp 0 0 4) (.tu [])),(53,cond (zb.getD 3 false) (.hd 1 2) (.tu [])),(54,cond (zb.getD 4 false) (.ag [I to,I epoch]) (.tu [])),(55,cond (zb.getD 5 false) (I 0) (.tu [])),(56,cond (zb.getD 6 false) (I (IntKind.i64.wrap (0 + 1))) (.tu [])),(57,cond (zb.getD 7 false) (.tu [I 0,.hd 5 2]) (.tu [])),(58,cond (zb.getD 8 false) (.hd 5 2) (.tu []))],((zs.b.set 1 (cond (zb.getD 9 false) (⟨2,.m (keyN x.sent ++ [kS (to,epoch)]) ((rowN x.sent ++ [[I 0]]).set x.sent.length [I (IntKind.i64.wrap (0 + 1))]) none none⟩) (cond (zb.getD 7 false) (⟨2,.m (keyN x.sent ++ [kS (to,epoch)]) (rowN x.sent ++ [[I 0]]) none (some (x.sent.length,5,2))⟩) (zs.b.getD 1 ⟨0,.x⟩)))).set 5 (cond (zb.getD 7 false) (⟨2,.x⟩) (zs.b.getD 5 ⟨0,.x⟩)))⟩) (by kernel_rfl) (by kernel_rfl) (by kernel_rfl) ?_ ?_
    rotate_left
    simp only [cond_true,cond_false,setT,List.set_cons_succ,List.set_cons_zero,List.getD_cons_succ,List.getD_cons_zero,List.set_cons_succ,List.length_cons,List.length_nil,List.replicate_succ,List.replicate_zero,Nat.reduceAdd]
    rotate_left
    · intro b hb' hcl
      obtain ⟨l0,b0,rfl,hb0⟩:=len_cons hb'
      obtain ⟨l1,b1,rfl,hb1⟩:=len_cons hb0
      obtain ⟨l2,b2,rfl,hb2⟩:=len_cons hb1
      obtain ⟨l3,b3,rfl,hb3⟩:=len_cons hb2
      obtain ⟨l4,b4,rfl,hb4⟩:=len_cons hb3
      obtain ⟨l5,b5,rfl,hb5⟩:=len_cons hb4
      obtain ⟨l6,b6,rfl,hb6⟩:=len_cons hb5
      obtain ⟨l7,b7,rfl,hb7⟩:=len_cons hb6
      obtain ⟨l8,b8,rfl,hb8⟩:=len_cons hb7
      obtain ⟨l9,b9,rfl,hb9⟩:=len_cons hb8
      obtain rfl:=List.length_eq_zero_iff.1 hb9
      clear hb' hb0 hb1 hb2 hb3 hb4 hb5 hb6 hb7 hb8 hb9
      · simp only [closedB,depsOk,Region.binds,List.toList_toArray,List.all_cons,List.all_nil,List.getD_cons_succ,List.getD_cons_zero,Bool.not_true,Bool.not_false,Bool.true_or,Bool.false_or,Bool.and_true,Bool.true_and,Bool.or_true,Bool.and_false,Bool.or_false,Bool.false_and,Bool.and_eq_true,Bool.or_eq_true,Bool.not_eq_true'] at hcl
        simp only [StepsP]
        refine ⟨?_,?_,?_,?_,?_,?_,?_,?_,?_,?_,trivial⟩
        · intro h1 h2
          simp [depsOk,Region.binds] at h1 h2
          subst h1
          (repeat (obtain ⟨rfl,h2⟩:=h2))
          (try subst h2)
          clear hcl
          all_goals simp only [cond_true,cond_false,setT,List.set_cons_succ,List.set_cons_zero,List.getD_cons_succ,List.getD_cons_zero,List.set_cons_succ]
          all_goals ((with_reducible apply AP.k_any);first|(refine AP.sm false rfl ?_ ?_;focus ((repeat' (with_reducible apply And.intro))<;>(first|exact True.intro|exact rfl|omega|decide|(simp;omega)|(simp;done)|assumption|exact .inl rfl|(refine .inr ?_;simp;try omega))))|fail "no step")
          all_goals (try simp only [nx,Nat.reduceAdd,Nat.reduceSub,BEq.rfl])
          all_goals refine AP.nil ?_
          all_goals exact ⟨rfl,rfl⟩
        · intro h1 h2
          simp [depsOk,Region.binds] at h1 h2
          subst h1
          (repeat (obtain ⟨rfl,h2⟩:=h2))
          (try subst h2)
          clear hcl
          all_goals simp only [cond_true,cond_false,setT,List.set_cons_succ,List.set_cons_zero,List.getD_cons_succ,List.getD_cons_zero,List.set_cons_succ]
          all_goals ((with_reducible apply AP.k_any);first|(refine AP.sm false rfl ?_ ?_;focus ((repeat' (with_reducible apply And.intro))<;>(first|exact True.intro|exact rfl|omega|decide|(simp;omega)|(simp;done)|assumption|exact .inl rfl|(refine .inr ?_;simp;try omega))))|fail "no step")
          all_goals (try simp only [nx,Nat.reduceAdd,Nat.reduceSub,BEq.rfl])
          all_goals refine AP.nil ?_
          all_goals exact ⟨rfl,rfl⟩
        · intro h1 h2
          simp [depsOk,Region.binds] at h1 h2
          subst h1
          (repeat (obtain ⟨rfl,h2⟩:=h2))
          (try subst h2)
          clear hcl
          all_goals simp only [cond_true,cond_false,setT,List.set_cons_succ,List.set_cons_zero,List.getD_cons_succ,List.getD_cons_zero,List.set_cons_succ]
          all_goals ((with_reducible apply AP.k_any);first|(refine AP.sm false rfl ?_ ?_;focus ((repeat' (with_reducible apply And.intro))<;>(first|exact True.intro|exact rfl|omega|decide|(simp;omega)|(simp;done)|assumption|exact .inl rfl|(refine .inr ?_;simp;try omega))))|fail "no step")
          all_goals (try simp only [nx,Nat.reduceAdd,Nat.reduceSub,BEq.rfl])
          all_goals refine AP.nil ?_
          all_goals exact ⟨rfl,rfl⟩
        · intro h1 h2
          simp [depsOk,Region.binds] at h1 h2
          subst h1
          (repeat (obtain ⟨rfl,h2⟩:=h2))
          (try subst h2)
          (first|(obtain rfl:l7=false:=by grind only)|skip)
          (first|(obtain rfl:l9=false:=by grind only)|skip)
          clear hcl
          all_goals simp only [cond_true,cond_false,setT,List.set_cons_succ,List.set_cons_zero,List.getD_cons_succ,List.getD_cons_zero,List.set_cons_succ]
          all_goals ((with_reducible apply AP.k_any);first|(refine AP.sm false rfl ?_ ?_;focus ((repeat' (with_reducible apply And.intro))<;>(first|exact True.intro|exact rfl|omega|decide|(simp;omega)|(simp;done)|assumption|exact .inl rfl|(refine .inr ?_;simp;try omega))))|(refine AP.el rfl ?_ (by (first|(refine ⟨?_,?_⟩;assumption;rfl)|exact ⟨mapAt (by (first|omega|(simp;omega)|(simp;done)|assumption)),rfl⟩|exact ⟨rfl,rfl⟩)) ?_;focus ((repeat' (with_reducible apply And.intro))<;>(first|exact True.intro|exact rfl|omega|decide|(simp;omega)|(simp;done)|assumption|exact .inl rfl|(refine .inr ?_;simp;try omega))))|fail "no step")
          all_goals (try simp only [nx,Nat.reduceAdd,Nat.reduceSub,BEq.rfl])
          all_goals refine AP.nil ?_
          all_goals exact ⟨rfl,rfl⟩
        · intro h1 h2
          simp [depsOk,Region.binds] at h1 h2
          subst h1
          (repeat (obtain ⟨rfl,h2⟩:=h2))
          (try subst h2)
          (first|(obtain rfl:l7=false:=by grind only)|skip)
          (first|(obtain rfl:l9=false:=by grind only)|skip)
          clear hcl
          all_goals simp only [cond_true,cond_false,setT,List.set_cons_succ,List.set_cons_zero,List.getD_cons_succ,List.getD_cons_zero,List.set_cons_succ]
          all_goals ((with_reducible apply AP.k_any);first|(refine AP.sm false rfl ?_ ?_;focus ((repeat' (with_reducible apply And.intro))<;>(first|exact True.intro|exact rfl|omega|decide|(simp;omega)|(simp;done)|assumption|exact .inl rfl|(refine .inr ?_;simp;try omega))))|(refine AP.el rfl ?_ (by (first|(refine ⟨?_,?_⟩;assumption;rfl)|exact ⟨mapAt (by (first|omega|(simp;omega)|(simp;done)|assumption)),rfl⟩|exact ⟨rfl,rfl⟩)) ?_;focus ((repeat' (with_reducible apply And.intro))<;>(first|exact True.intro|exact rfl|omega|decide|(simp;omega)|(simp;done)|assumption|exact .inl rfl|(refine .inr ?_;simp;try omega))))|fail "no step")
          all_goals (try simp only [nx,Nat.reduceAdd,Nat.reduceSub,BEq.rfl])
          all_goals refine AP.nil ?_
          all_goals exact ⟨rfl,rfl⟩
        · intro h1 h2
          simp [depsOk,Region.binds] at h1 h2
          subst h1
          (repeat (obtain ⟨rfl,h2⟩:=h2))
          (try subst h2)
          (first|(obtain rfl:l9=false:=by grind only)|skip)
          clear hcl
          (first|cases l7|skip)
          all_goals simp only [cond_true,cond_false,setT,List.set_cons_succ,List.set_cons_zero,List.getD_cons_succ,List.getD_cons_zero,List.set_cons_succ]
          all_goals ((with_reducible apply AP.k_any);first|refine AP.LK ?_|refine AP.LN ?_|fail "no step")
          all_goals (try simp only [nx,Nat.reduceAdd,Nat.reduceSub,BEq.rfl])
          all_goals refine AP.nil ?_
          all_goals exact ⟨rfl,rfl⟩
        · intro h1 h2
          simp [depsOk,Region.binds] at h1 h2
          subst h1
          (repeat (obtain ⟨rfl,h2⟩:=h2))
          (try subst h2)
          clear hcl
          all_goals simp only [cond_true,cond_false,setT,List.set_cons_succ,List.set_cons_zero,List.getD_cons_succ,List.getD_cons_zero,List.set_cons_succ]
          all_goals ((with_reducible apply AP.k_any);first|(refine AP.sm false rfl ?_ ?_;focus ((repeat' (with_reducible apply And.intro))<;>(first|exact True.intro|exact rfl|omega|decide|(simp;omega)|(simp;done)|assumption|exact .inl rfl|(refine .inr ?_;simp;try omega))))|fail "no step")
          all_goals (try simp only [nx,Nat.reduceAdd,Nat.reduceSub,BEq.rfl])
          all_goals refine AP.nil ?_
          all_goals exact ⟨rfl,rfl⟩
        · intro h1 h2
          simp [depsOk,Region.binds] at h1 h2
          subst h1
          (repeat (obtain ⟨rfl,h2⟩:=h2))
          (try subst h2)
          (first|(obtain rfl:l9=false:=by grind only)|skip)
          clear hcl
          all_goals simp only [cond_true,cond_false,setT,List.set_cons_succ,List.set_cons_zero,List.getD_cons_succ,List.getD_cons_zero,List.set_cons_succ]
          all_goals ((with_reducible apply AP.k_any);first|refine AP.ME ?_|refine AP.MF ?_|fail "no step")
          all_goals (try simp only [nx,Nat.reduceAdd,Nat.reduceSub,BEq.rfl])
          all_goals refine AP.nil ?_
          all_goals exact ⟨rfl,rfl⟩
        · intro h1 h2
          simp [depsOk,Region.binds] at h1 h2
          subst h1
          (repeat (obtain ⟨rfl,h2⟩:=h2))
          (try subst h2)
          clear hcl
          all_goals simp only [cond_true,cond_false,setT,List.set_cons_succ,List.set_cons_zero,List.getD_cons_succ,List.getD_cons_zero,List.set_cons_succ]
          all_goals ((with_reducible apply AP.k_any);first|(refine AP.sm false rfl ?_ ?_;focus ((repeat' (with_reducible apply And.intro))<;>(first|exact True.intro|exact rfl|omega|decide|(simp;omega)|(simp;done)|assumption|exact .inl rfl|(refine .inr ?_;simp;try omega))))|fail "no step")
          all_goals (try simp only [nx,Nat.reduceAdd,Nat.reduceSub,BEq.rfl])
          all_goals refine AP.nil ?_
          all_goals exact ⟨rfl,rfl⟩
        · intro h1 h2
          simp [depsOk,Region.binds] at h1 h2
          subst h1
          (repeat (obtain ⟨rfl,h2⟩:=h2))
          (try subst h2)
          (first|(obtain rfl:l7=true:=by grind only)|skip)
          clear hcl
          all_goals simp only [cond_true,cond_false,setT,List.set_cons_succ,List.set_cons_zero,List.getD_cons_succ,List.getD_cons_zero,List.set_cons_succ]
          all_goals ((with_reducible apply AP.k_any);first|refine AP.MS ?_|fail "no step")
          all_goals (try simp only [nx,Nat.reduceAdd,Nat.reduceSub,BEq.rfl])
          all_goals refine AP.nil ?_
          all_goals exact ⟨rfl,rfl⟩
    simp only [hw0]
    repeat' (first|((first|((with_reducible apply AP.k_any);first|refine AP.ST ?_|(refine AP.Y ?_;dsimp only)|refine AP.G (fun hg=>?_) (fun hg=>?_)|(refine AP.V (fun c hnil=>?_);simp only [nz])|refine AP.PF ?_))<;>(try simp only [hw,nx,mx,rn,fq,Nat.mul_one,Bool.and_true,Bool.and_false,Nat.reduceBEq,Nat.reduceAdd,Nat.reduceSub,BEq.rfl]))|((with_reducible apply AP.k_nil);first|(refine AP.nil (hQ' _ ?_);clear hQ' Q')|refine AP.nil ?_)|((with_reducible apply CP.k_reg);refine cp_regG fun Q' hQ'=>?_)|refine CP.W ?_|refine cp_cond rfl (fun hc=>?_) (fun hc=>?_)|(simp only [List.append_eq,List.cons_append,List.nil_append]))
    (exact RetQ.A [(0,0)] (by exact ⟨rfl,rfl⟩))
  | some n=>
    obtain ⟨v,hv⟩:=at_some ha
    have hg:got (to,epoch) x.sent 0=v:=by unfold got;rw [ha];dsimp only;rw [hv]
    have e1:xE (x.bump to epoch)=.c tEn [B true,bs none x.root,I x.who,I x.boot,.mo (keyN x.sent) ((rowN x.sent).set n [I (v + 1)]),.mo (keyW x.wins) (rowW x.wins)]:=by
      have e2:=puts_keys ha (v + 1)
      have e3:(x.sent.set n ((to,epoch),v + 1)).map (fun p:Sd×Int=>[I p.2])=(rowN x.sent).set n [I (v + 1)]:=by rw [List.map_set]
      unfold Ends.bump puts
      rw [hg,ha]
      dsimp only [xE,enE,keyN,rowN]
      rw [e2,e3]
    rw [e1]
    have hro:=rowAt_map (e:=fun p:Sd×Int=>[I p.2]) hv rfl
    rw [ha] at hf
    rw [hg] at hw h2 h3
    refine AC.N Tryz.func58 Tryz.ntmps58 ?_
    intro X hρ hmks
    simp only [nx,Nat.reduceAdd,Nat.reduceSub,BEq.rfl]
    refine CP.gh gh_slot ?_;simp only [nx,Nat.reduceAdd,Nat.reduceSub,BEq.rfl]
    refine CP.gh gh_slot ?_;simp only [nx,Nat.reduceAdd,Nat.reduceSub,BEq.rfl]
    refine CP.gh gh_slot ?_;simp only [nx,Nat.reduceAdd,Nat.reduceSub,BEq.rfl]
    repeat' (first|((first|((with_reducible apply AP.k_any);first|refine AP.ST ?_|(refine AP.Y ?_;dsimp only)|refine AP.G (fun hg=>?_) (fun hg=>?_)|(refine AP.V (fun c hnil=>?_);simp only [nz])|refine AP.PF ?_))<;>(try simp only [hw,nx,mx,rn,fq,Nat.mul_one,Bool.and_true,Bool.and_false,Nat.reduceBEq,Nat.reduceAdd,Nat.reduceSub,BEq.rfl]))|((with_reducible apply AP.k_nil);first|(refine AP.nil (hQ' _ ?_);clear hQ' Q')|refine AP.nil ?_)|((with_reducible apply CP.k_reg);refine cp_regG fun Q' hQ'=>?_)|refine CP.W ?_|refine cp_cond rfl (fun hc=>?_) (fun hc=>?_)|(simp only [List.append_eq,List.cons_append,List.nil_append]))
    first|refine cp_drwX fun Q' hQ'=>?_|refine cp_drawX ?_
    repeat' (first|((first|((with_reducible apply AP.k_any);first|refine AP.ST ?_|(refine AP.Y ?_;dsimp only)|refine AP.G (fun hg=>?_) (fun hg=>?_)|(refine AP.V (fun c hnil=>?_);simp only [nz])|refine AP.PF ?_)|((with_reducible apply DW.k_any);first|refine DW.ST ?_|((fail_if_success refine DW.known rfl ?_);refine DW.G (fun hg=>?_) (fun hg=>?_))))<;>(try simp only [hw,nx,mx,rn,fq,Nat.mul_one,Bool.and_true,Bool.and_false,Nat.reduceBEq,Nat.reduceAdd,Nat.reduceSub,BEq.rfl]))|((with_reducible apply AP.k_nil);first|(refine AP.nil (hQ' _ ?_);clear hQ' Q')|refine AP.nil ?_)|((with_reducible apply DW.k_nil);refine DW.nl ?_;first|(refine hQ' _ ?_;clear hQ' Q')|skip)|((with_reducible apply CP.k_reg);refine cp_regG fun Q' hQ'=>?_)|refine CP.W ?_|refine cp_cond rfl (fun hc=>?_) (fun hc=>?_)|(simp only [List.append_eq,List.cons_append,List.nil_append]))
    first|refine cp_drwX fun Q' hQ'=>?_|refine cp_drawX ?_
    repeat' (first|((first|((with_reducible apply AP.k_any);first|refine AP.ST ?_|(refine AP.Y ?_;dsimp only)|refine AP.G (fun hg=>?_) (fun hg=>?_)|(refine AP.V (fun c hnil=>?_);simp only [nz])|refine AP.PF ?_)|((with_reducible apply DW.k_any);first|refine DW.ST ?_|((fail_if_success refine DW.known rfl ?_);refine DW.G (fun hg=>?_) (fun hg=>?_))))<;>(try simp only [hw,nx,mx,rn,fq,Nat.mul_one,Bool.and_true,Bool.and_false,Nat.reduceBEq,Nat.reduceAdd,Nat.reduceSub,BEq.rfl]))|((with_reducible apply AP.k_nil);first|(refine AP.nil (hQ' _ ?_);clear hQ' Q')|refine AP.nil ?_)|((with_reducible apply DW.k_nil);refine DW.nl ?_;first|(refine hQ' _ ?_;clear hQ' Q')|skip)|((with_reducible apply CP.k_reg);refine cp_regG fun Q' hQ'=>?_)|refine CP.W ?_|refine cp_cond rfl (fun hc=>?_) (fun hc=>?_)|(simp only [List.append_eq,List.cons_append,List.nil_append]))
    refine cp_drawI (fun zs zb=>⟨setT zs.t [(50,cond (zb.getD 0 false) (.bp 0 0 0) (.tu [])),(51,cond (zb.getD 1 false) (.bp 0 0 0) (.tu [])),(52,cond (zb.getD 2 false) (.bp 0 0 4) (.tu [])),(53,cond (zb.getD 3 false) (.hd 1 2) (.tu [])),(54,cond (zb.getD 4 false) (.ag [I to,I epoch]) (.tu [])),(55,cond (zb.getD 5 false) (I v) (.tu [])),(56,cond (zb.getD 6 false) (I (IntKind.i64.wrap (v + 1))) (.tu [])),(57,cond (zb.getD 7 false) (.tu [I v,.hd 5 2]) (.tu [])),(58,cond (zb.getD 8 false) (.hd 5 2) (.tu []))],((zs.b.set 1 (cond (zb.getD 9 false) (⟨2,.m (keyN x.sent) ((rowN x.sent).set n [I (IntKind.i64.wrap (v + 1))]) none none⟩) (cond (zb.getD 7 false) (⟨2,.m (keyN x.sent) (rowN x.sent) none (some (n,5,2))⟩) (zs.b.getD 1 ⟨0,.x⟩)))).set 5 (cond (zb.getD 7 false) (⟨2,.x⟩) (zs.b.getD 5 ⟨0,.x⟩)))⟩) (by kernel_rfl) (by kernel_rfl) (by kernel_rfl) ?_ ?_
    rotate_left
    simp only [cond_true,cond_false,setT,List.set_cons_succ,List.set_cons_zero,List.getD_cons_succ,List.getD_cons_zero,List.set_cons_succ,List.length_cons,List.length_nil,List.replicate_succ,List.replicate_zero,Nat.reduceAdd]
    rotate_left
    · intro b hb' hcl
      obtain ⟨l0,b0,rfl,hb0⟩:=len_cons hb'
      obtain ⟨l1,b1,rfl,hb1⟩:=len_cons hb0
      obtain ⟨l2,b2,rfl,hb2⟩:=len_cons hb1
      obtain ⟨l3,b3,rfl,hb3⟩:=len_cons hb2
      obtain ⟨l4,b4,rfl,hb4⟩:=len_cons hb3
      obtain ⟨l5,b5,rfl,hb5⟩:=len_cons hb4
      obtain ⟨l6,b6,rfl,hb6⟩:=len_cons hb5
      obtain ⟨l7,b7,rfl,hb7⟩:=len_cons hb6
      obtain ⟨l8,b8,rfl,hb8⟩:=len_cons hb7
      obtain ⟨l9,b9,rfl,hb9⟩:=len_cons hb8
      obtain rfl:=List.length_eq_zero_iff.1 hb9
      clear hb' hb0 hb1 hb2 hb3 hb4 hb5 hb6 hb7 hb8 hb9
      · simp only [closedB,depsOk,Region.binds,List.toList_toArray,List.all_cons,List.all_nil,List.getD_cons_succ,List.getD_cons_zero,Bool.not_true,Bool.not_false,Bool.true_or,Bool.false_or,Bool.and_true,Bool.true_and,Bool.or_true,Bool.and_false,Bool.or_false,Bool.false_and,Bool.and_eq_true,Bool.or_eq_true,Bool.not_eq_true'] at hcl
        simp only [StepsP]
        refine ⟨?_,?_,?_,?_,?_,?_,?_,?_,?_,?_,trivial⟩
        · intro h1 h2
          simp [depsOk,Region.binds] at h1 h2
          subst h1
          (repeat (obtain ⟨rfl,h2⟩:=h2))
          (try subst h2)
          clear hcl
          all_goals simp only [cond_true,cond_false,setT,List.set_cons_succ,List.set_cons_zero,List.getD_cons_succ,List.getD_cons_zero,List.set_cons_succ]
          all_goals ((with_reducible apply AP.k_any);first|(refine AP.sm false rfl ?_ ?_;focus ((repeat' (with_reducible apply And.intro))<;>(first|exact True.intro|exact rfl|omega|decide|(simp;omega)|(simp;done)|assumption|exact .inl rfl|(refine .inr ?_;simp;try omega))))|fail "no step")
          all_goals (try simp only [nx,Nat.reduceAdd,Nat.reduceSub,BEq.rfl])
          all_goals refine AP.nil ?_
          all_goals exact ⟨rfl,rfl⟩
        · intro h1 h2
          simp [depsOk,Region.binds] at h1 h2
          subst h1
          (repeat (obtain ⟨rfl,h2⟩:=h2))
          (try subst h2)
          clear hcl
          all_goals simp only [cond_true,cond_false,setT,List.set_cons_succ,List.set_cons_zero,List.getD_cons_succ,List.getD_cons_zero,List.set_cons_succ]
          all_goals ((with_reducible apply AP.k_any);first|(refine AP.sm false rfl ?_ ?_;focus ((repeat' (with_reducible apply And.intro))<;>(first|exact True.intro|exact rfl|omega|decide|(simp;omega)|(simp;done)|assumption|exact .inl rfl|(refine .inr ?_;simp;try omega))))|fail "no step")
          all_goals (try simp only [nx,Nat.reduceAdd,Nat.reduceSub,BEq.rfl])
          all_goals refine AP.nil ?_
          all_goals exact ⟨rfl,rfl⟩
        · intro h1 h2
          simp [depsOk,Region.binds] at h1 h2
          subst h1
          (repeat (obtain ⟨rfl,h2⟩:=h2))
          (try subst h2)
          clear hcl
          all_goals simp only [cond_true,cond_false,setT,List.set_cons_succ,List.set_cons_zero,List.getD_cons_succ,List.getD_cons_zero,List.set_cons_succ]
          all_goals ((with_reducible apply AP.k_any);first|(refine AP.sm false rfl ?_ ?_;focus ((repeat' (with_reducible apply And.intro))<;>(first|exact True.intro|exact rfl|omega|decide|(simp;omega)|(simp;done)|assumption|exact .inl rfl|(refine .inr ?_;simp;try omega))))|fail "no step")
          all_goals (try simp only [nx,Nat.reduceAdd,Nat.reduceSub,BEq.rfl])
          all_goals refine AP.nil ?_
          all_goals exact ⟨rfl,rfl⟩
        · intro h1 h2
          simp [depsOk,Region.binds] at h1 h2
          subst h1
          (repeat (obtain ⟨rfl,h2⟩:=h2))
          (try subst h2)
          (first|(obtain rfl:l7=false:=by grind only)|skip)
          (first|(obtain rfl:l9=false:=by grind only)|skip)
          clear hcl
          all_goals simp only [cond_true,cond_false,setT,List.set_cons_succ,List.set_cons_zero,List.getD_cons_succ,List.getD_cons_zero,List.set_cons_succ]
          all_goals ((with_reducible apply AP.k_any);first|(refine AP.sm false rfl ?_ ?_;focus ((repeat' (with_reducible apply And.intro))<;>(first|exact True.intro|exact rfl|omega|decide|(simp;omega)|(simp;done)|assumption|exact .inl rfl|(refine .inr ?_;simp;try omega))))|(refine AP.el rfl ?_ (by (first|(refine ⟨?_,?_⟩;assumption;rfl)|exact ⟨mapAt (by (first|omega|(simp;omega)|(simp;done)|assumption)),rfl⟩|exact ⟨rfl,rfl⟩)) ?_;focus ((repeat' (with_reducible apply And.intro))<;>(first|exact True.intro|exact rfl|omega|decide|(simp;omega)|(simp;done)|assumption|exact .inl rfl|(refine .inr ?_;simp;try omega))))|fail "no step")
          all_goals (try simp only [nx,Nat.reduceAdd,Nat.reduceSub,BEq.rfl])
          all_goals refine AP.nil ?_
          all_goals exact ⟨rfl,rfl⟩
        · intro h1 h2
          simp [depsOk,Region.binds] at h1 h2
          subst h1
          (repeat (obtain ⟨rfl,h2⟩:=h2))
          (try subst h2)
          (first|(obtain rfl:l7=false:=by grind only)|skip)
          (first|(obtain rfl:l9=false:=by grind only)|skip)
          clear hcl
          all_goals simp only [cond_true,cond_false,setT,List.set_cons_succ,List.set_cons_zero,List.getD_cons_succ,List.getD_cons_zero,List.set_cons_succ]
          all_goals ((with_reducible apply AP.k_any);first|(refine AP.sm false rfl ?_ ?_;focus ((repeat' (with_reducible apply And.intro))<;>(first|exact True.intro|exact rfl|omega|decide|(simp;omega)|(simp;done)|assumption|exact .inl rfl|(refine .inr ?_;simp;try omega))))|(refine AP.el rfl ?_ (by (first|(refine ⟨?_,?_⟩;assumption;rfl)|exact ⟨mapAt (by (first|omega|(simp;omega)|(simp;done)|assumption)),rfl⟩|exact ⟨rfl,rfl⟩)) ?_;focus ((repeat' (with_reducible apply And.intro))<;>(first|exact True.intro|exact rfl|omega|decide|(simp;omega)|(simp;done)|assumption|exact .inl rfl|(refine .inr ?_;simp;try omega))))|fail "no step")
          all_goals (try simp only [nx,Nat.reduceAdd,Nat.reduceSub,BEq.rfl])
          all_goals refine AP.nil ?_
          all_goals exact ⟨rfl,rfl⟩
        · intro h1 h2
          simp [depsOk,Region.binds] at h1 h2
          subst h1
          (repeat (obtain ⟨rfl,h2⟩:=h2))
          (try subst h2)
          (first|(obtain rfl:l9=false:=by grind only)|skip)
          clear hcl
          (first|cases l7|skip)
          all_goals simp only [cond_true,cond_false,setT,List.set_cons_succ,List.set_cons_zero,List.getD_cons_succ,List.getD_cons_zero,List.set_cons_succ]
          all_goals ((with_reducible apply AP.k_any);first|refine AP.LK ?_|refine AP.LN ?_|fail "no step")
          all_goals (try simp only [nx,Nat.reduceAdd,Nat.reduceSub,BEq.rfl])
          all_goals refine AP.nil ?_
          all_goals exact ⟨rfl,rfl⟩
        · intro h1 h2
          simp [depsOk,Region.binds] at h1 h2
          subst h1
          (repeat (obtain ⟨rfl,h2⟩:=h2))
          (try subst h2)
          clear hcl
          all_goals simp only [cond_true,cond_false,setT,List.set_cons_succ,List.set_cons_zero,List.getD_cons_succ,List.getD_cons_zero,List.set_cons_succ]
          all_goals ((with_reducible apply AP.k_any);first|(refine AP.sm false rfl ?_ ?_;focus ((repeat' (with_reducible apply And.intro))<;>(first|exact True.intro|exact rfl|omega|decide|(simp;omega)|(simp;done)|assumption|exact .inl rfl|(refine .inr ?_;simp;try omega))))|fail "no step")
          all_goals (try simp only [nx,Nat.reduceAdd,Nat.reduceSub,BEq.rfl])
          all_goals refine AP.nil ?_
          all_goals exact ⟨rfl,rfl⟩
        · intro h1 h2
          simp [depsOk,Region.binds] at h1 h2
          subst h1
          (repeat (obtain ⟨rfl,h2⟩:=h2))
          (try subst h2)
          (first|(obtain rfl:l9=false:=by grind only)|skip)
          clear hcl
          all_goals simp only [cond_true,cond_false,setT,List.set_cons_succ,List.set_cons_zero,List.getD_cons_succ,List.getD_cons_zero,List.set_cons_succ]
          all_goals ((with_reducible apply AP.k_any);first|refine AP.ME ?_|refine AP.MF ?_|fail "no step")
          all_goals (try simp only [nx,Nat.reduceAdd,Nat.reduceSub,BEq.rfl])
          all_goals refine AP.nil ?_
          all_goals exact ⟨rfl,rfl⟩
        · intro h1 h2
          simp [depsOk,Region.binds] at h1 h2
          subst h1
          (repeat (obtain ⟨rfl,h2⟩:=h2))
          (try subst h2)
          clear hcl
          all_goals simp only [cond_true,cond_false,setT,List.set_cons_succ,List.set_cons_zero,List.getD_cons_succ,List.getD_cons_zero,List.set_cons_succ]
          all_goals ((with_reducible apply AP.k_any);first|(refine AP.sm false rfl ?_ ?_;focus ((repeat' (with_reducible apply And.intro))<;>(first|exact True.intro|exact rfl|omega|decide|(simp;omega)|(simp;done)|assumption|exact .inl rfl|(refine .inr ?_;simp;try omega))))|fail "no step")
          all_goals (try simp only [nx,Nat.reduceAdd,Nat.reduceSub,BEq.rfl])
          all_goals refine AP.nil ?_
          all_goals exact ⟨rfl,rfl⟩
        · intro h1 h2
          simp [depsOk,Region.binds] at h1 h2
          subst h1
          (repeat (obtain ⟨rfl,h2⟩:=h2))
          (try subst h2)
          (first|(obtain rfl:l7=true:=by grind only)|skip)
          clear hcl
          all_goals simp only [cond_true,cond_false,setT,List.set_cons_succ,List.set_cons_zero,List.getD_cons_succ,List.getD_cons_zero,List.set_cons_succ]
          all_goals ((with_reducible apply AP.k_any);first|refine AP.MS ?_|fail "no step")
          all_goals (try simp only [nx,Nat.reduceAdd,Nat.reduceSub,BEq.rfl])
          all_goals refine AP.nil ?_
          all_goals exact ⟨rfl,rfl⟩
    simp only [hw]
    repeat' (first|((first|((with_reducible apply AP.k_any);first|refine AP.ST ?_|(refine AP.Y ?_;dsimp only)|refine AP.G (fun hg=>?_) (fun hg=>?_)|(refine AP.V (fun c hnil=>?_);simp only [nz])|refine AP.PF ?_))<;>(try simp only [hw,nx,mx,rn,fq,Nat.mul_one,Bool.and_true,Bool.and_false,Nat.reduceBEq,Nat.reduceAdd,Nat.reduceSub,BEq.rfl]))|((with_reducible apply AP.k_nil);first|(refine AP.nil (hQ' _ ?_);clear hQ' Q')|refine AP.nil ?_)|((with_reducible apply CP.k_reg);refine cp_regG fun Q' hQ'=>?_)|refine CP.W ?_|refine cp_cond rfl (fun hc=>?_) (fun hc=>?_)|(simp only [List.append_eq,List.cons_append,List.nil_append]))
    (exact RetQ.A [(0,0)] (by exact ⟨rfl,rfl⟩))
def Ends.send (x:Ends) (to epoch:Int) (body:List UInt8):(List UInt8×Int)×Ends:=if mayP (x.pkt to epoch body)=true then ((headS (x.pkt to epoch body) ++ tagS x.root (x.pkt to epoch body),0),x.bump to epoch) else (([],2),x)
theorem send_ac (x:Ends) (to epoch:Int) (body:List UInt8) (hr:x.root.length≤10000) (hb:body.length≤60000) (hn:0≤got (to,epoch) x.sent 0∧got (to,epoch) x.sent 0≤1000000000) :
    AC Tryz.prog 58 [.bp 0 0 0,I to,I epoch,bs none body] [xE x] (fun v bs'=>v=.tu [bs none (x.send to epoch body).1.1,I (x.send to epoch body).1.2]∧bs'=[xE (x.send to epoch body).2]):=by
  cases hm:mayP (x.pkt to epoch body) with
  | true=>
    have e:x.send to epoch body=((headS (x.pkt to epoch body) ++ tagS x.root (x.pkt to epoch body),0),x.bump to epoch):=if_pos hm
    rw [e];exact send_ok x to epoch body hr hb hn hm
  | false=>
    have e:x.send to epoch body=(([],2),x):=if_neg (by rw [hm];simp)
    rw [e];exact send_no x to epoch body hr hb hn hm
end Go.Proofs.YtmgneincjfhaoaaGreat

namespace Go.Proofs.YtmgneincjfhaoaaGreat
set_option linter.unusedVariables false
set_option linter.unusedSimpArgs false
set_option maxHeartbeats 8000000
open Go.RowKit
set_option maxRecDepth 100000
abbrev tRd:TypeId:=187
abbrev rB (st:Int×List UInt8):Bx:=.c tRd [B true,bs none st.2,I st.1]
def newR (b:List UInt8):Int×List UInt8:=if 65536 < b.length then (3,[]) else (0,b)
theorem rnew_ac (b:List UInt8) (hb:b.length≤100000000):AC Tryz.prog 80 [bs none b] [] (fun v bs'=>v=.bp 0 0 0∧bs'=[rB (newR b)]):=by
  by_cases h:65536 < b.length
  · have e:newR b=(3,[]):=by simp [newR,h]
    rw [e]
    refine AC.N Tryz.func80 Tryz.ntmps80 ?_
    intro X hρ hmks
    simp only [nx,Nat.reduceAdd,Nat.reduceSub,BEq.rfl]
    repeat' (first|((first|((with_reducible apply AP.k_any);first|refine AP.S ?_))<;>(try simp only [nx,Nat.reduceAdd,Nat.reduceSub,BEq.rfl]))|((with_reducible apply AP.k_nil);first|(refine AP.nil (hQ' _ ?_);clear hQ' Q')|refine AP.nil ?_)|((with_reducible apply CP.k_reg);refine cp_regG fun Q' hQ'=>?_)|refine CP.W ?_|refine cp_cond rfl (fun hc=>?_) (fun hc=>?_)|(simp only [List.append_eq,List.cons_append,List.nil_append]))
    · (exact RetQ.A [(0,1)] (by exact ⟨rfl,rfl⟩))
    · exfalso;simp at *;omega
  · have e:newR b=(0,b):=by simp [newR,h]
    have hcat:=(wcat_ac [b] (by simp) (by simp;omega)).ro (r2:=bs none b) (by simp [AV.ro,ro_B])
    rw [e]
    refine AC.N Tryz.func80 Tryz.ntmps80 ?_
    intro X hρ hmks
    simp only [nx,Nat.reduceAdd,Nat.reduceSub,BEq.rfl]
    repeat' (first|((first|((with_reducible apply AP.k_any);first|refine AP.Z ?_)|((with_reducible apply AP.k_any);refine AP.C (hcat) ?_)|((with_reducible apply AP.k_any);refine AP.gh (gh_fz (b:=0) (u:=1) rfl rfl (by (repeat' (first|exact FzC.nil|apply FzC.cons|exact FzV.hd|apply FzV.ag|exact FzV.same))) (by (repeat' (first|exact FzB.nil|apply FzB.c|apply FzB.same|exact FzC.nil|apply FzC.cons|exact FzV.hd|apply FzV.ag|exact FzV.same)))) ?_;first|simp only [roE,roC,AV.ro,ro_B,ro_M,ro_E]|simp only [roE,roC,AV.ro,ro_B]))<;>(try simp only [nx,Nat.reduceAdd,Nat.reduceSub,BEq.rfl]))|((with_reducible apply AP.k_nil);first|(refine AP.nil (hQ' _ ?_);clear hQ' Q')|refine AP.nil ?_)|((with_reducible apply CP.k_reg);refine cp_regG fun Q' hQ'=>?_)|refine CP.W ?_|refine cp_cond rfl (fun hc=>?_) (fun hc=>?_)|(simp only [List.append_eq,List.cons_append,List.nil_append]))
    · exfalso;simp at *;omega
    · (exact RetQ.A [(0,2)] (by exact ⟨rfl,rfl⟩))
theorem fine_ac (st:Int×List UInt8):AC Tryz.prog 159 [.bp 0 0 0] [rB st] (fun v bs'=>v=B (st.1 == 0)∧bs'=[rB st]):=by
  refine AC.N Tryz.func159 Tryz.ntmps159 ?_
  intro X hρ hmks
  simp only [nx,Nat.reduceAdd,Nat.reduceSub,BEq.rfl]
  repeat' (first|((first|((with_reducible apply AP.k_any);first|refine AP.S ?_|(refine AP.Y ?_;dsimp only)|refine AP.G (fun hg=>?_) (fun hg=>?_)|(refine AP.V (fun c hnil=>?_);simp only [nz])))<;>(try simp only [nx,Nat.reduceAdd,Nat.reduceSub,BEq.rfl]))|((with_reducible apply AP.k_nil);first|(refine AP.nil (hQ' _ ?_);clear hQ' Q')|refine AP.nil ?_)|((with_reducible apply CP.k_reg);refine cp_regG fun Q' hQ'=>?_)|refine CP.W ?_|refine cp_cond rfl (fun hc=>?_) (fun hc=>?_)|(simp only [List.append_eq,List.cons_append,List.nil_append]))
  (exact RetQ.A [(0,0)] (by exact ⟨rfl,rfl⟩))
theorem rbad_ac (st:Int×List UInt8):AC Tryz.prog 160 [.bp 0 0 0] [rB st] (fun v bs'=>v=.tu []∧bs'=[rB (40,[])]):=by
  refine AC.N Tryz.func160 Tryz.ntmps160 ?_
  intro X hρ hmks
  simp only [nx,Nat.reduceAdd,Nat.reduceSub,BEq.rfl]
  repeat' (first|((first|((with_reducible apply AP.k_any);first|refine AP.S ?_))<;>(try simp only [nx,Nat.reduceAdd,Nat.reduceSub,BEq.rfl]))|((with_reducible apply AP.k_nil);first|(refine AP.nil (hQ' _ ?_);clear hQ' Q')|refine AP.nil ?_)|((with_reducible apply CP.k_reg);refine cp_regG fun Q' hQ'=>?_)|refine CP.W ?_|refine cp_cond rfl (fun hc=>?_) (fun hc=>?_)|(simp only [List.append_eq,List.cons_append,List.nil_append]))
  (exact RetQ.A [(0,0)] (by exact ⟨rfl,rfl⟩))
def takeS {α:Type} (z:α) (f:List UInt8→α×Bool) (n:Int) (st:Int×List UInt8):α×(Int×List UInt8):=
  if st.1≠0 then (z,st) else if n < 0∨(st.2.length:Int) < n then (z,(40,[]))
  else if (f (st.2.take n.toNat)).2=true then ((f (st.2.take n.toNat)).1,(0,st.2.drop n.toNat)) else (z,(40,[]))
theorem take1_ac (f:Nat) (g:List UInt8→UInt8×Bool) (n:Int) (st:Int×List UInt8) (hst:st.2.length≤100000000) (hf:∀ b:List UInt8,b.length=n.toNat→b.length≤st.2.length→AC Tryz.prog f [bs none b] [] (fun v bs'=>v=.tu [U (g b).1,B (g b).2]∧bs'=[])) :
    AC Tryz.prog 124 [.bp 0 0 0,I n,.fn f []] [rB st] (fun v bs'=>v=U (takeS (0:UInt8) g n st).1∧bs'=[rB (takeS (0:UInt8) g n st).2]):=by
  obtain ⟨e,b⟩:=st
  by_cases he:e=0
  · subst he
    by_cases hn:n < 0∨(b.length:Int) < n
    · have ht:takeS (0:UInt8) g n (0,b)=((0:UInt8),(40,[])):=by simp only [takeS,hn];simp
      rw [ht]
      refine AC.N Tryz.func124 Tryz.ntmps124 ?_
      intro X hρ hmks
      simp only [nx,Nat.reduceAdd,Nat.reduceSub,BEq.rfl]
      repeat' (first|((first|((with_reducible apply AP.k_any);first|refine AP.S ?_|(refine AP.Y ?_;dsimp only)|refine AP.G (fun hg=>?_) (fun hg=>?_))|((with_reducible apply AP.k_any);refine AP.CB [(0,0)] 0 (fine_ac (0,b)) ?_)|((with_reducible apply AP.k_any);refine AP.CB [(0,0)] 0 (rbad_ac (0,b)) ?_))<;>(try simp only [nx,Nat.reduceAdd,Nat.reduceSub,BEq.rfl]))|((with_reducible apply AP.k_nil);first|(refine AP.nil (hQ' _ ?_);clear hQ' Q')|refine AP.nil ?_)|((with_reducible apply CP.k_reg);refine cp_regG fun Q' hQ'=>?_)|refine CP.W ?_|refine cp_cond rfl (fun hc=>?_) (fun hc=>?_)|(simp only [List.append_eq,List.cons_append,List.nil_append]))
      all_goals first
        | (exfalso;simp at *;done)
        | (exfalso;simp at *;omega)
        | (exact RetQ.A [(0,0)] (by exact ⟨rfl,rfl⟩))
    · have hl:(b.take n.toNat).length=n.toNat:=by simp;omega
      have hf':=hf (b.take n.toNat) hl (by rw [List.length_take];exact Nat.min_le_right _ _)
      have htk:List.take (b.length - n.toNat) (List.drop n.toNat b)=List.drop n.toNat b:=List.take_of_length_le (by simp)
      have hn0:0≤n:=by omega
      have hn1:n≤(b.length:Int):=by omega
      have hm:n≤((b.map eB).length:Int):=by simp;omega
      have ht:takeS (0:UInt8) g n (0,b)=if (g (b.take n.toNat)).2=true then ((g (b.take n.toNat)).1,(0,b.drop n.toNat)) else ((0:UInt8),(40,[])):=by simp only [takeS,hn];simp
      rw [ht]
      cases hg2:(g (b.take n.toNat)).2 with
      | true=>
        rw [hg2] at hf'
        simp only [if_true]
        refine AC.N Tryz.func124 Tryz.ntmps124 ?_
        intro X hρ hmks
        simp only [nx,Nat.reduceAdd,Nat.reduceSub,BEq.rfl]
        repeat' (first|((first|((with_reducible apply AP.k_any);first|refine AP.S ?_|(refine AP.Y ?_;dsimp only)|refine AP.G (fun hg=>?_) (fun hg=>?_))|((with_reducible apply AP.k_any);refine AP.CB [(0,0)] 0 (fine_ac (0,b)) ?_)|((with_reducible apply AP.k_any);refine ap_callX rfl rfl (fn:=f) rfl hf' (by (repeat' (first|exact PasC.nil|apply PasC.nil|apply PasC.cons|apply PasV.leaf rfl|apply PasV.nl|apply PasV.bp rfl|apply PasV.vp rfl|apply PasV.hk rfl|apply PasV.pz|exact VsM.nil|apply VsM.cons rfl|apply PasV.lend rfl rfl rfl|apply PasV.lend rfl rfl (ro_B _)|apply PasV.lend rfl rfl (ro_M _)|apply PasV.lend rfl rfl (ro_E _ _)|apply PasV.lend rfl rfl (ro_I _)|apply PasV.lend rfl rfl (by (simp only [rn,List.map_cons,List.map_nil];first|done|rfl))|apply PasV.mv rfl|apply PasV.ag|apply PasV.fn|exact PasV.fs|apply PasV.any))) rfl rfl ?_)|((with_reducible apply AP.k_any);refine AP.CB [(0,0)] 0 (rbad_ac (0,b)) ?_))<;>(try simp only [nx,Nat.reduceAdd,Nat.reduceSub,BEq.rfl]))|((with_reducible apply AP.k_nil);first|(refine AP.nil (hQ' _ ?_);clear hQ' Q')|refine AP.nil ?_)|((with_reducible apply CP.k_reg);refine cp_regG fun Q' hQ'=>?_)|refine CP.W ?_|refine cp_cond rfl (fun hc=>?_) (fun hc=>?_)|(simp only [List.append_eq,List.cons_append,List.nil_append]))
        all_goals first
          | (exfalso;simp at *;done)
          | (exfalso;simp at *;omega)
          | (simp only [htk]
             (exact RetQ.A [(0,0)] (by exact ⟨rfl,rfl⟩)))
      | false=>
        rw [hg2] at hf'
        simp only [Bool.false_eq_true,if_false]
        refine AC.N Tryz.func124 Tryz.ntmps124 ?_
        intro X hρ hmks
        simp only [nx,Nat.reduceAdd,Nat.reduceSub,BEq.rfl]
        repeat' (first|((first|((with_reducible apply AP.k_any);first|refine AP.S ?_|(refine AP.Y ?_;dsimp only)|refine AP.G (fun hg=>?_) (fun hg=>?_))|((with_reducible apply AP.k_any);refine AP.CB [(0,0)] 0 (fine_ac (0,b)) ?_)|((with_reducible apply AP.k_any);refine ap_callX rfl rfl (fn:=f) rfl hf' (by (repeat' (first|exact PasC.nil|apply PasC.nil|apply PasC.cons|apply PasV.leaf rfl|apply PasV.nl|apply PasV.bp rfl|apply PasV.vp rfl|apply PasV.hk rfl|apply PasV.pz|exact VsM.nil|apply VsM.cons rfl|apply PasV.lend rfl rfl rfl|apply PasV.lend rfl rfl (ro_B _)|apply PasV.lend rfl rfl (ro_M _)|apply PasV.lend rfl rfl (ro_E _ _)|apply PasV.lend rfl rfl (ro_I _)|apply PasV.lend rfl rfl (by (simp only [rn,List.map_cons,List.map_nil];first|done|rfl))|apply PasV.mv rfl|apply PasV.ag|apply PasV.fn|exact PasV.fs|apply PasV.any))) rfl rfl ?_)|((with_reducible apply AP.k_any);refine AP.CB [(0,0)] 0 (rbad_ac (0,b)) ?_))<;>(try simp only [nx,Nat.reduceAdd,Nat.reduceSub,BEq.rfl]))|((with_reducible apply AP.k_nil);first|(refine AP.nil (hQ' _ ?_);clear hQ' Q')|refine AP.nil ?_)|((with_reducible apply CP.k_reg);refine cp_regG fun Q' hQ'=>?_)|refine CP.W ?_|refine cp_cond rfl (fun hc=>?_) (fun hc=>?_)|(simp only [List.append_eq,List.cons_append,List.nil_append]))
        all_goals first
          | (exfalso;simp at *;done)
          | (exfalso;simp at *;omega)
          | (exact RetQ.A [(0,0)] (by exact ⟨rfl,rfl⟩))
  · have ht:takeS (0:UInt8) g n (e,b)=((0:UInt8),(e,b)):=by simp [takeS,he]
    have hb:((e:Int) == 0)=false:=by simp [he]
    rw [ht]
    refine AC.N Tryz.func124 Tryz.ntmps124 ?_
    intro X hρ hmks
    simp only [nx,Nat.reduceAdd,Nat.reduceSub,BEq.rfl]
    repeat' (first|((first|((with_reducible apply AP.k_any);first|refine AP.S ?_|(refine AP.Y ?_;dsimp only)|refine AP.G (fun hg=>?_) (fun hg=>?_))|((with_reducible apply AP.k_any);refine AP.CB [(0,0)] 0 (fine_ac (e,b)) ?_))<;>(try simp only [nx,Nat.reduceAdd,Nat.reduceSub,BEq.rfl]))|((with_reducible apply AP.k_nil);first|(refine AP.nil (hQ' _ ?_);clear hQ' Q')|refine AP.nil ?_)|((with_reducible apply CP.k_reg);refine cp_regG fun Q' hQ'=>?_)|refine CP.W ?_|refine cp_cond rfl (fun hc=>?_) (fun hc=>?_)|(simp only [List.append_eq,List.cons_append,List.nil_append]))
    all_goals first
      | (exfalso;simp at *;done)
      | (exfalso;simp at *;omega)
      | (exact RetQ.A [(0,0)] (by exact ⟨rfl,rfl⟩))
theorem take2_ac (f:Nat) (g:List UInt8→Bool×Bool) (n:Int) (st:Int×List UInt8) (hst:st.2.length≤100000000) (hf:∀ b:List UInt8,b.length=n.toNat→b.length≤st.2.length→AC Tryz.prog f [bs none b] [] (fun v bs'=>v=.tu [B (g b).1,B (g b).2]∧bs'=[])) :
    AC Tryz.prog 220 [.bp 0 0 0,I n,.fn f []] [rB st] (fun v bs'=>v=B (takeS false g n st).1∧bs'=[rB (takeS false g n st).2]):=by
  obtain ⟨e,b⟩:=st
  by_cases he:e=0
  · subst he
    by_cases hn:n < 0∨(b.length:Int) < n
    · have ht:takeS false g n (0,b)=(false,(40,[])):=by simp only [takeS,hn];simp
      rw [ht]
      refine AC.N Tryz.func220 Tryz.ntmps220 ?_
      intro X hρ hmks
      simp only [nx,Nat.reduceAdd,Nat.reduceSub,BEq.rfl]
      repeat' (first|((first|((with_reducible apply AP.k_any);first|refine AP.S ?_|(refine AP.Y ?_;dsimp only)|refine AP.G (fun hg=>?_) (fun hg=>?_))|((with_reducible apply AP.k_any);refine AP.CB [(0,0)] 0 (fine_ac (0,b)) ?_)|((with_reducible apply AP.k_any);refine AP.CB [(0,0)] 0 (rbad_ac (0,b)) ?_))<;>(try simp only [nx,Nat.reduceAdd,Nat.reduceSub,BEq.rfl]))|((with_reducible apply AP.k_nil);first|(refine AP.nil (hQ' _ ?_);clear hQ' Q')|refine AP.nil ?_)|((with_reducible apply CP.k_reg);refine cp_regG fun Q' hQ'=>?_)|refine CP.W ?_|refine cp_cond rfl (fun hc=>?_) (fun hc=>?_)|(simp only [List.append_eq,List.cons_append,List.nil_append]))
      all_goals first
        | (exfalso;simp at *;done)
        | (exfalso;simp at *;omega)
        | (exact RetQ.A [(0,0)] (by exact ⟨rfl,rfl⟩))
    · have hl:(b.take n.toNat).length=n.toNat:=by simp;omega
      have hf':=hf (b.take n.toNat) hl (by rw [List.length_take];exact Nat.min_le_right _ _)
      have htk:List.take (b.length - n.toNat) (List.drop n.toNat b)=List.drop n.toNat b:=List.take_of_length_le (by simp)
      have hn0:0≤n:=by omega
      have hn1:n≤(b.length:Int):=by omega
      have hm:n≤((b.map eB).length:Int):=by simp;omega
      have ht:takeS false g n (0,b)=if (g (b.take n.toNat)).2=true then ((g (b.take n.toNat)).1,(0,b.drop n.toNat)) else (false,(40,[])):=by simp only [takeS,hn];simp
      rw [ht]
      cases hg2:(g (b.take n.toNat)).2 with
      | true=>
        rw [hg2] at hf'
        simp only [if_true]
        refine AC.N Tryz.func220 Tryz.ntmps220 ?_
        intro X hρ hmks
        simp only [nx,Nat.reduceAdd,Nat.reduceSub,BEq.rfl]
        repeat' (first|((first|((with_reducible apply AP.k_any);first|refine AP.S ?_|(refine AP.Y ?_;dsimp only)|refine AP.G (fun hg=>?_) (fun hg=>?_))|((with_reducible apply AP.k_any);refine AP.CB [(0,0)] 0 (fine_ac (0,b)) ?_)|((with_reducible apply AP.k_any);refine ap_callX rfl rfl (fn:=f) rfl hf' (by (repeat' (first|exact PasC.nil|apply PasC.nil|apply PasC.cons|apply PasV.leaf rfl|apply PasV.nl|apply PasV.bp rfl|apply PasV.vp rfl|apply PasV.hk rfl|apply PasV.pz|exact VsM.nil|apply VsM.cons rfl|apply PasV.lend rfl rfl rfl|apply PasV.lend rfl rfl (ro_B _)|apply PasV.lend rfl rfl (ro_M _)|apply PasV.lend rfl rfl (ro_E _ _)|apply PasV.lend rfl rfl (ro_I _)|apply PasV.lend rfl rfl (by (simp only [rn,List.map_cons,List.map_nil];first|done|rfl))|apply PasV.mv rfl|apply PasV.ag|apply PasV.fn|exact PasV.fs|apply PasV.any))) rfl rfl ?_)|((with_reducible apply AP.k_any);refine AP.CB [(0,0)] 0 (rbad_ac (0,b)) ?_))<;>(try simp only [nx,Nat.reduceAdd,Nat.reduceSub,BEq.rfl]))|((with_reducible apply AP.k_nil);first|(refine AP.nil (hQ' _ ?_);clear hQ' Q')|refine AP.nil ?_)|((with_reducible apply CP.k_reg);refine cp_regG fun Q' hQ'=>?_)|refine CP.W ?_|refine cp_cond rfl (fun hc=>?_) (fun hc=>?_)|(simp only [List.append_eq,List.cons_append,List.nil_append]))
        all_goals first
          | (exfalso;simp at *;done)
          | (exfalso;simp at *;omega)
          | (simp only [htk]
             (exact RetQ.A [(0,0)] (by exact ⟨rfl,rfl⟩)))
      | false=>
        rw [hg2] at hf'
        simp only [Bool.false_eq_true,if_false]
        refine AC.N Tryz.func220 Tryz.ntmps220 ?_
        intro X hρ hmks
        simp only [nx,Nat.reduceAdd,Nat.reduceSub,BEq.rfl]
        repeat' (first|((first|((with_reducible apply AP.k_any);first|refine AP.S ?_|(refine AP.Y ?_;dsimp only)|refine AP.G (fun hg=>?_) (fun hg=>?_))|((with_reducible apply AP.k_any);refine AP.CB [(0,0)] 0 (fine_ac (0,b)) ?_)|((with_reducible apply AP.k_any);refine ap_callX rfl rfl (fn:=f) rfl hf' (by (repeat' (first|exact PasC.nil|apply PasC.nil|apply PasC.cons|apply PasV.leaf rfl|apply PasV.nl|apply PasV.bp rfl|apply PasV.vp rfl|apply PasV.hk rfl|apply PasV.pz|exact VsM.nil|apply VsM.cons rfl|apply PasV.lend rfl rfl rfl|apply PasV.lend rfl rfl (ro_B _)|apply PasV.lend rfl rfl (ro_M _)|apply PasV.lend rfl rfl (ro_E _ _)|apply PasV.lend rfl rfl (ro_I _)|apply PasV.lend rfl rfl (by (simp only [rn,List.map_cons,List.map_nil];first|done|rfl))|apply PasV.mv rfl|apply PasV.ag|apply PasV.fn|exact PasV.fs|apply PasV.any))) rfl rfl ?_)|((with_reducible apply AP.k_any);refine AP.CB [(0,0)] 0 (rbad_ac (0,b)) ?_))<;>(try simp only [nx,Nat.reduceAdd,Nat.reduceSub,BEq.rfl]))|((with_reducible apply AP.k_nil);first|(refine AP.nil (hQ' _ ?_);clear hQ' Q')|refine AP.nil ?_)|((with_reducible apply CP.k_reg);refine cp_regG fun Q' hQ'=>?_)|refine CP.W ?_|refine cp_cond rfl (fun hc=>?_) (fun hc=>?_)|(simp only [List.append_eq,List.cons_append,List.nil_append]))
        all_goals first
          | (exfalso;simp at *;done)
          | (exfalso;simp at *;omega)
          | (exact RetQ.A [(0,0)] (by exact ⟨rfl,rfl⟩))
  · have ht:takeS false g n (e,b)=(false,(e,b)):=by simp [takeS,he]
    have hb:((e:Int) == 0)=false:=by simp [he]
    rw [ht]
    refine AC.N Tryz.func220 Tryz.ntmps220 ?_
    intro X hρ hmks
    simp only [nx,Nat.reduceAdd,Nat.reduceSub,BEq.rfl]
    repeat' (first|((first|((with_reducible apply AP.k_any);first|refine AP.S ?_|(refine AP.Y ?_;dsimp only)|refine AP.G (fun hg=>?_) (fun hg=>?_))|((with_reducible apply AP.k_any);refine AP.CB [(0,0)] 0 (fine_ac (e,b)) ?_))<;>(try simp only [nx,Nat.reduceAdd,Nat.reduceSub,BEq.rfl]))|((with_reducible apply AP.k_nil);first|(refine AP.nil (hQ' _ ?_);clear hQ' Q')|refine AP.nil ?_)|((with_reducible apply CP.k_reg);refine cp_regG fun Q' hQ'=>?_)|refine CP.W ?_|refine cp_cond rfl (fun hc=>?_) (fun hc=>?_)|(simp only [List.append_eq,List.cons_append,List.nil_append]))
    all_goals first
      | (exfalso;simp at *;done)
      | (exfalso;simp at *;omega)
      | (exact RetQ.A [(0,0)] (by exact ⟨rfl,rfl⟩))
theorem take3_ac (f:Nat) (g:List UInt8→Int×Bool) (n:Int) (st:Int×List UInt8) (hst:st.2.length≤100000000) (hf:∀ b:List UInt8,b.length=n.toNat→b.length≤st.2.length→AC Tryz.prog f [bs none b] [] (fun v bs'=>v=.tu [I (g b).1,B (g b).2]∧bs'=[])) :
    AC Tryz.prog 146 [.bp 0 0 0,I n,.fn f []] [rB st] (fun v bs'=>v=I (takeS (0:Int) g n st).1∧bs'=[rB (takeS (0:Int) g n st).2]):=by
  obtain ⟨e,b⟩:=st
  by_cases he:e=0
  · subst he
    by_cases hn:n < 0∨(b.length:Int) < n
    · have ht:takeS (0:Int) g n (0,b)=((0:Int),(40,[])):=by simp only [takeS,hn];simp
      rw [ht]
      refine AC.N Tryz.func146 Tryz.ntmps146 ?_
      intro X hρ hmks
      simp only [nx,Nat.reduceAdd,Nat.reduceSub,BEq.rfl]
      repeat' (first|((first|((with_reducible apply AP.k_any);first|refine AP.S ?_|(refine AP.Y ?_;dsimp only)|refine AP.G (fun hg=>?_) (fun hg=>?_))|((with_reducible apply AP.k_any);refine AP.CB [(0,0)] 0 (fine_ac (0,b)) ?_)|((with_reducible apply AP.k_any);refine AP.CB [(0,0)] 0 (rbad_ac (0,b)) ?_))<;>(try simp only [nx,Nat.reduceAdd,Nat.reduceSub,BEq.rfl]))|((with_reducible apply AP.k_nil);first|(refine AP.nil (hQ' _ ?_);clear hQ' Q')|refine AP.nil ?_)|((with_reducible apply CP.k_reg);refine cp_regG fun Q' hQ'=>?_)|refine CP.W ?_|refine cp_cond rfl (fun hc=>?_) (fun hc=>?_)|(simp only [List.append_eq,List.cons_append,List.nil_append]))
      all_goals first
        | (exfalso;simp at *;done)
        | (exfalso;simp at *;omega)
        | (exact RetQ.A [(0,0)] (by exact ⟨rfl,rfl⟩))
    · have hl:(b.take n.toNat).length=n.toNat:=by simp;omega
      have hf':=hf (b.take n.toNat) hl (by rw [List.length_take];exact Nat.min_le_right _ _)
      have htk:List.take (b.length - n.toNat) (List.drop n.toNat b)=List.drop n.toNat b:=List.take_of_length_le (by simp)
      have hn0:0≤n:=by omega
      have hn1:n≤(b.length:Int):=by omega
      have hm:n≤((b.map eB).length:Int):=by simp;omega
      have ht:takeS (0:Int) g n (0,b)=if (g (b.take n.toNat)).2=true then ((g (b.take n.toNat)).1,(0,b.drop n.toNat)) else ((0:Int),(40,[])):=by simp only [takeS,hn];simp
      rw [ht]
      cases hg2:(g (b.take n.toNat)).2 with
      | true=>
        rw [hg2] at hf'
        simp only [if_true]
        refine AC.N Tryz.func146 Tryz.ntmps146 ?_
        intro X hρ hmks
        simp only [nx,Nat.reduceAdd,Nat.reduceSub,BEq.rfl]
        repeat' (first|((first|((with_reducible apply AP.k_any);first|refine AP.S ?_|(refine AP.Y ?_;dsimp only)|refine AP.G (fun hg=>?_) (fun hg=>?_))|((with_reducible apply AP.k_any);refine AP.CB [(0,0)] 0 (fine_ac (0,b)) ?_)|((with_reducible apply AP.k_any);refine ap_callX rfl rfl (fn:=f) rfl hf' (by (repeat' (first|exact PasC.nil|apply PasC.nil|apply PasC.cons|apply PasV.leaf rfl|apply PasV.nl|apply PasV.bp rfl|apply PasV.vp rfl|apply PasV.hk rfl|apply PasV.pz|exact VsM.nil|apply VsM.cons rfl|apply PasV.lend rfl rfl rfl|apply PasV.lend rfl rfl (ro_B _)|apply PasV.lend rfl rfl (ro_M _)|apply PasV.lend rfl rfl (ro_E _ _)|apply PasV.lend rfl rfl (ro_I _)|apply PasV.lend rfl rfl (by (simp only [rn,List.map_cons,List.map_nil];first|done|rfl))|apply PasV.mv rfl|apply PasV.ag|apply PasV.fn|exact PasV.fs|apply PasV.any))) rfl rfl ?_)|((with_reducible apply AP.k_any);refine AP.CB [(0,0)] 0 (rbad_ac (0,b)) ?_))<;>(try simp only [nx,Nat.reduceAdd,Nat.reduceSub,BEq.rfl]))|((with_reducible apply AP.k_nil);first|(refine AP.nil (hQ' _ ?_);clear hQ' Q')|refine AP.nil ?_)|((with_reducible apply CP.k_reg);refine cp_regG fun Q' hQ'=>?_)|refine CP.W ?_|refine cp_cond rfl (fun hc=>?_) (fun hc=>?_)|(simp only [List.append_eq,List.cons_append,List.nil_append]))
        all_goals first
          | (exfalso;simp at *;done)
          | (exfalso;simp at *;omega)
          | (simp only [htk]
             (exact RetQ.A [(0,0)] (by exact ⟨rfl,rfl⟩)))
      | false=>
        rw [hg2] at hf'
        simp only [Bool.false_eq_true,if_false]
        refine AC.N Tryz.func146 Tryz.ntmps146 ?_
        intro X hρ hmks
        simp only [nx,Nat.reduceAdd,Nat.reduceSub,BEq.rfl]
        repeat' (first|((first|((with_reducible apply AP.k_any);first|refine AP.S ?_|(refine AP.Y ?_;dsimp only)|refine AP.G (fun hg=>?_) (fun hg=>?_))|((with_reducible apply AP.k_any);refine AP.CB [(0,0)] 0 (fine_ac (0,b)) ?_)|((with_reducible apply AP.k_any);refine ap_callX rfl rfl (fn:=f) rfl hf' (by (repeat' (first|exact PasC.nil|apply PasC.nil|apply PasC.cons|apply PasV.leaf rfl|apply PasV.nl|apply PasV.bp rfl|apply PasV.vp rfl|apply PasV.hk rfl|apply PasV.pz|exact VsM.nil|apply VsM.cons rfl|apply PasV.lend rfl rfl rfl|apply PasV.lend rfl rfl (ro_B _)|apply PasV.lend rfl rfl (ro_M _)|apply PasV.lend rfl rfl (ro_E _ _)|apply PasV.lend rfl rfl (ro_I _)|apply PasV.lend rfl rfl (by (simp only [rn,List.map_cons,List.map_nil];first|done|rfl))|apply PasV.mv rfl|apply PasV.ag|apply PasV.fn|exact PasV.fs|apply PasV.any))) rfl rfl ?_)|((with_reducible apply AP.k_any);refine AP.CB [(0,0)] 0 (rbad_ac (0,b)) ?_))<;>(try simp only [nx,Nat.reduceAdd,Nat.reduceSub,BEq.rfl]))|((with_reducible apply AP.k_nil);first|(refine AP.nil (hQ' _ ?_);clear hQ' Q')|refine AP.nil ?_)|((with_reducible apply CP.k_reg);refine cp_regG fun Q' hQ'=>?_)|refine CP.W ?_|refine cp_cond rfl (fun hc=>?_) (fun hc=>?_)|(simp only [List.append_eq,List.cons_append,List.nil_append]))
        all_goals first
          | (exfalso;simp at *;done)
          | (exfalso;simp at *;omega)
          | (exact RetQ.A [(0,0)] (by exact ⟨rfl,rfl⟩))
  · have ht:takeS (0:Int) g n (e,b)=((0:Int),(e,b)):=by simp [takeS,he]
    have hb:((e:Int) == 0)=false:=by simp [he]
    rw [ht]
    refine AC.N Tryz.func146 Tryz.ntmps146 ?_
    intro X hρ hmks
    simp only [nx,Nat.reduceAdd,Nat.reduceSub,BEq.rfl]
    repeat' (first|((first|((with_reducible apply AP.k_any);first|refine AP.S ?_|(refine AP.Y ?_;dsimp only)|refine AP.G (fun hg=>?_) (fun hg=>?_))|((with_reducible apply AP.k_any);refine AP.CB [(0,0)] 0 (fine_ac (e,b)) ?_))<;>(try simp only [nx,Nat.reduceAdd,Nat.reduceSub,BEq.rfl]))|((with_reducible apply AP.k_nil);first|(refine AP.nil (hQ' _ ?_);clear hQ' Q')|refine AP.nil ?_)|((with_reducible apply CP.k_reg);refine cp_regG fun Q' hQ'=>?_)|refine CP.W ?_|refine cp_cond rfl (fun hc=>?_) (fun hc=>?_)|(simp only [List.append_eq,List.cons_append,List.nil_append]))
    all_goals first
      | (exfalso;simp at *;done)
      | (exfalso;simp at *;omega)
      | (exact RetQ.A [(0,0)] (by exact ⟨rfl,rfl⟩))
theorem take4_ac (f:Nat) (g:List UInt8→List UInt8×Bool) (n:Int) (st:Int×List UInt8) (hst:st.2.length≤100000000) (hf:∀ b:List UInt8,b.length=n.toNat→b.length≤st.2.length→AC Tryz.prog f [bs none b] [] (fun v bs'=>v=.tu [bs none (g b).1,B (g b).2]∧bs'=[])) :
    AC Tryz.prog 151 [.bp 0 0 0,I n,.fn f []] [rB st] (fun v bs'=>v=bs none (takeS ([]:List UInt8) g n st).1∧bs'=[rB (takeS ([]:List UInt8) g n st).2]):=by
  obtain ⟨e,b⟩:=st
  by_cases he:e=0
  · subst he
    by_cases hn:n < 0∨(b.length:Int) < n
    · have ht:takeS ([]:List UInt8) g n (0,b)=(([]:List UInt8),(40,[])):=by simp only [takeS,hn];simp
      rw [ht]
      refine AC.N Tryz.func151 Tryz.ntmps151 ?_
      intro X hρ hmks
      simp only [nx,Nat.reduceAdd,Nat.reduceSub,BEq.rfl]
      repeat' (first|((first|((with_reducible apply AP.k_any);first|refine AP.S ?_|(refine AP.Y ?_;dsimp only)|refine AP.G (fun hg=>?_) (fun hg=>?_))|((with_reducible apply AP.k_any);refine AP.CB [(0,0)] 0 (fine_ac (0,b)) ?_)|((with_reducible apply AP.k_any);refine AP.CB [(0,0)] 0 (rbad_ac (0,b)) ?_))<;>(try simp only [nx,Nat.reduceAdd,Nat.reduceSub,BEq.rfl]))|((with_reducible apply AP.k_nil);first|(refine AP.nil (hQ' _ ?_);clear hQ' Q')|refine AP.nil ?_)|((with_reducible apply CP.k_reg);refine cp_regG fun Q' hQ'=>?_)|refine CP.W ?_|refine cp_cond rfl (fun hc=>?_) (fun hc=>?_)|(simp only [List.append_eq,List.cons_append,List.nil_append]))
      all_goals first
        | (exfalso;simp at *;done)
        | (exfalso;simp at *;omega)
        | (exact RetQ.A [(0,0)] (by exact ⟨rfl,rfl⟩))
    · have hl:(b.take n.toNat).length=n.toNat:=by simp;omega
      have hf':=hf (b.take n.toNat) hl (by rw [List.length_take];exact Nat.min_le_right _ _)
      have htk:List.take (b.length - n.toNat) (List.drop n.toNat b)=List.drop n.toNat b:=List.take_of_length_le (by simp)
      have hn0:0≤n:=by omega
      have hn1:n≤(b.length:Int):=by omega
      have hm:n≤((b.map eB).length:Int):=by simp;omega
      have ht:takeS ([]:List UInt8) g n (0,b)=if (g (b.take n.toNat)).2=true then ((g (b.take n.toNat)).1,(0,b.drop n.toNat)) else (([]:List UInt8),(40,[])):=by simp only [takeS,hn];simp
      rw [ht]
      cases hg2:(g (b.take n.toNat)).2 with
      | true=>
        rw [hg2] at hf'
        simp only [if_true]
        refine AC.N Tryz.func151 Tryz.ntmps151 ?_
        intro X hρ hmks
        simp only [nx,Nat.reduceAdd,Nat.reduceSub,BEq.rfl]
        repeat' (first|((first|((with_reducible apply AP.k_any);first|refine AP.S ?_|(refine AP.Y ?_;dsimp only)|refine AP.G (fun hg=>?_) (fun hg=>?_))|((with_reducible apply AP.k_any);refine AP.CB [(0,0)] 0 (fine_ac (0,b)) ?_)|((with_reducible apply AP.k_any);refine ap_callX rfl rfl (fn:=f) rfl hf' (by (repeat' (first|exact PasC.nil|apply PasC.nil|apply PasC.cons|apply PasV.leaf rfl|apply PasV.nl|apply PasV.bp rfl|apply PasV.vp rfl|apply PasV.hk rfl|apply PasV.pz|exact VsM.nil|apply VsM.cons rfl|apply PasV.lend rfl rfl rfl|apply PasV.lend rfl rfl (ro_B _)|apply PasV.lend rfl rfl (ro_M _)|apply PasV.lend rfl rfl (ro_E _ _)|apply PasV.lend rfl rfl (ro_I _)|apply PasV.lend rfl rfl (by (simp only [rn,List.map_cons,List.map_nil];first|done|rfl))|apply PasV.mv rfl|apply PasV.ag|apply PasV.fn|exact PasV.fs|apply PasV.any))) rfl rfl ?_)|((with_reducible apply AP.k_any);refine AP.CB [(0,0)] 0 (rbad_ac (0,b)) ?_))<;>(try simp only [nx,Nat.reduceAdd,Nat.reduceSub,BEq.rfl]))|((with_reducible apply AP.k_nil);first|(refine AP.nil (hQ' _ ?_);clear hQ' Q')|refine AP.nil ?_)|((with_reducible apply CP.k_reg);refine cp_regG fun Q' hQ'=>?_)|refine CP.W ?_|refine cp_cond rfl (fun hc=>?_) (fun hc=>?_)|(simp only [List.append_eq,List.cons_append,List.nil_append]))
        all_goals first
          | (exfalso;simp at *;done)
          | (exfalso;simp at *;omega)
          | (simp only [htk]
             (exact RetQ.A [(0,0)] (by exact ⟨rfl,rfl⟩)))
      | false=>
        rw [hg2] at hf'
        simp only [Bool.false_eq_true,if_false]
        refine AC.N Tryz.func151 Tryz.ntmps151 ?_
        intro X hρ hmks
        simp only [nx,Nat.reduceAdd,Nat.reduceSub,BEq.rfl]
        repeat' (first|((first|((with_reducible apply AP.k_any);first|refine AP.S ?_|(refine AP.Y ?_;dsimp only)|refine AP.G (fun hg=>?_) (fun hg=>?_))|((with_reducible apply AP.k_any);refine AP.CB [(0,0)] 0 (fine_ac (0,b)) ?_)|((with_reducible apply AP.k_any);refine ap_callX rfl rfl (fn:=f) rfl hf' (by (repeat' (first|exact PasC.nil|apply PasC.nil|apply PasC.cons|apply PasV.leaf rfl|apply PasV.nl|apply PasV.bp rfl|apply PasV.vp rfl|apply PasV.hk rfl|apply PasV.pz|exact VsM.nil|apply VsM.cons rfl|apply PasV.lend rfl rfl rfl|apply PasV.lend rfl rfl (ro_B _)|apply PasV.lend rfl rfl (ro_M _)|apply PasV.lend rfl rfl (ro_E _ _)|apply PasV.lend rfl rfl (ro_I _)|apply PasV.lend rfl rfl (by (simp only [rn,List.map_cons,List.map_nil];first|done|rfl))|apply PasV.mv rfl|apply PasV.ag|apply PasV.fn|exact PasV.fs|apply PasV.any))) rfl rfl ?_)|((with_reducible apply AP.k_any);refine AP.CB [(0,0)] 0 (rbad_ac (0,b)) ?_))<;>(try simp only [nx,Nat.reduceAdd,Nat.reduceSub,BEq.rfl]))|((with_reducible apply AP.k_nil);first|(refine AP.nil (hQ' _ ?_);clear hQ' Q')|refine AP.nil ?_)|((with_reducible apply CP.k_reg);refine cp_regG fun Q' hQ'=>?_)|refine CP.W ?_|refine cp_cond rfl (fun hc=>?_) (fun hc=>?_)|(simp only [List.append_eq,List.cons_append,List.nil_append]))
        all_goals first
          | (exfalso;simp at *;done)
          | (exfalso;simp at *;omega)
          | (exact RetQ.A [(0,0)] (by exact ⟨rfl,rfl⟩))
  · have ht:takeS ([]:List UInt8) g n (e,b)=(([]:List UInt8),(e,b)):=by simp [takeS,he]
    have hb:((e:Int) == 0)=false:=by simp [he]
    rw [ht]
    refine AC.N Tryz.func151 Tryz.ntmps151 ?_
    intro X hρ hmks
    simp only [nx,Nat.reduceAdd,Nat.reduceSub,BEq.rfl]
    repeat' (first|((first|((with_reducible apply AP.k_any);first|refine AP.S ?_|(refine AP.Y ?_;dsimp only)|refine AP.G (fun hg=>?_) (fun hg=>?_))|((with_reducible apply AP.k_any);refine AP.CB [(0,0)] 0 (fine_ac (e,b)) ?_))<;>(try simp only [nx,Nat.reduceAdd,Nat.reduceSub,BEq.rfl]))|((with_reducible apply AP.k_nil);first|(refine AP.nil (hQ' _ ?_);clear hQ' Q')|refine AP.nil ?_)|((with_reducible apply CP.k_reg);refine cp_regG fun Q' hQ'=>?_)|refine CP.W ?_|refine cp_cond rfl (fun hc=>?_) (fun hc=>?_)|(simp only [List.append_eq,List.cons_append,List.nil_append]))
    all_goals first
      | (exfalso;simp at *;done)
      | (exfalso;simp at *;omega)
      | (exact RetQ.A [(0,0)] (by exact ⟨rfl,rfl⟩))
abbrev iB (x:Int):Bx:=.c 3 [I x]
theorem take5_ac (m l:Int) (f:Nat) (g:List UInt8→Int×Bool) (n:Int) (st:Int×List UInt8) (hst:st.2.length≤100000000) (hf:∀ b:List UInt8,b.length=n.toNat→b.length≤st.2.length→AC Tryz.prog f [bs none b,.bp 0 0 0,.bp 1 0 0] [iB m,iB l] (fun v bs'=>v=.tu [I (g b).1,B (g b).2]∧bs'=[iB m,iB l])) :
    AC Tryz.prog 146 [.bp 0 0 0,I n,.fn f [.bp 1 0 0,.bp 2 0 0]] [rB st,iB m,iB l] (fun v bs'=>v=I (takeS (0:Int) g n st).1∧bs'=[rB (takeS (0:Int) g n st).2,iB m,iB l]):=by
  obtain ⟨e,b⟩:=st
  by_cases he:e=0
  · subst he
    by_cases hn:n < 0∨(b.length:Int) < n
    · have ht:takeS (0:Int) g n (0,b)=((0:Int),(40,[])):=by simp only [takeS,hn];simp
      rw [ht]
      refine AC.N Tryz.func146 Tryz.ntmps146 ?_
      intro X hρ hmks
      simp only [nx,Nat.reduceAdd,Nat.reduceSub,BEq.rfl]
      repeat' (first|((first|((with_reducible apply AP.k_any);first|refine AP.S ?_|(refine AP.Y ?_;dsimp only)|refine AP.G (fun hg=>?_) (fun hg=>?_))|((with_reducible apply AP.k_any);refine AP.CB [(0,0)] 0 (fine_ac (0,b)) ?_)|((with_reducible apply AP.k_any);refine AP.CB [(0,0)] 0 (rbad_ac (0,b)) ?_))<;>(try simp only [nx,Nat.reduceAdd,Nat.reduceSub,BEq.rfl]))|((with_reducible apply AP.k_nil);first|(refine AP.nil (hQ' _ ?_);clear hQ' Q')|refine AP.nil ?_)|((with_reducible apply CP.k_reg);refine cp_regG fun Q' hQ'=>?_)|refine CP.W ?_|refine cp_cond rfl (fun hc=>?_) (fun hc=>?_)|(simp only [List.append_eq,List.cons_append,List.nil_append]))
      all_goals first
        | (exfalso;simp at *;done)
        | (exfalso;simp at *;omega)
        | (exact RetQ.A [(0,0),(1,0),(2,0)] (by exact ⟨rfl,rfl⟩))
    · have hl:(b.take n.toNat).length=n.toNat:=by simp;omega
      have hf':=hf (b.take n.toNat) hl (by rw [List.length_take];exact Nat.min_le_right _ _)
      have htk:List.take (b.length - n.toNat) (List.drop n.toNat b)=List.drop n.toNat b:=List.take_of_length_le (by simp)
      have hn0:0≤n:=by omega
      have hn1:n≤(b.length:Int):=by omega
      have hm:n≤((b.map eB).length:Int):=by simp;omega
      have ht:takeS (0:Int) g n (0,b)=if (g (b.take n.toNat)).2=true then ((g (b.take n.toNat)).1,(0,b.drop n.toNat)) else ((0:Int),(40,[])):=by simp only [takeS,hn];simp
      rw [ht]
      cases hg2:(g (b.take n.toNat)).2 with
      | true=>
        rw [hg2] at hf'
        simp only [if_true]
        refine AC.N Tryz.func146 Tryz.ntmps146 ?_
        intro X hρ hmks
        simp only [nx,Nat.reduceAdd,Nat.reduceSub,BEq.rfl]
        repeat' (first|((first|((with_reducible apply AP.k_any);first|refine AP.S ?_|(refine AP.Y ?_;dsimp only)|refine AP.G (fun hg=>?_) (fun hg=>?_))|((with_reducible apply AP.k_any);refine AP.CB [(0,0)] 0 (fine_ac (0,b)) ?_)|((with_reducible apply AP.k_any);refine ap_callB 0 [(1,0),(2,0)] rfl rfl (fn:=f) rfl hf' (by (repeat' (first|exact PasC.nil|apply PasC.nil|apply PasC.cons|apply PasV.leaf rfl|apply PasV.nl|apply PasV.bp rfl|apply PasV.vp rfl|apply PasV.hk rfl|apply PasV.pz|exact VsM.nil|apply VsM.cons rfl|apply PasV.lend rfl rfl rfl|apply PasV.lend rfl rfl (ro_B _)|apply PasV.lend rfl rfl (ro_M _)|apply PasV.lend rfl rfl (ro_E _ _)|apply PasV.lend rfl rfl (ro_I _)|apply PasV.lend rfl rfl (by (simp only [rn,List.map_cons,List.map_nil];first|done|rfl))|apply PasV.mv rfl|apply PasV.ag|apply PasV.fn|exact PasV.fs|apply PasV.any))) (by (repeat' (first|exact Out.nil|apply Out.cons rfl|apply Out.r rfl|apply Out.f rfl|exact ClsC.nil|apply ClsC.nl|apply ClsC.leaf rfl|apply ClsC.hd rfl|apply ClsC.ob rfl|apply ClsC.mo rfl|apply ClsC.mp rfl|apply ClsC.hp rfl|apply ClsC.fn|apply ClsC.fz rfl (ro_B _)|apply ClsC.fz rfl (ro_M _)|apply ClsC.fz rfl (ro_E _ _)|apply ClsC.fz rfl rfl))) rfl (by (repeat' (first|exact Bk.nil|apply Bk.cons rfl rfl rfl|apply Bk.r rfl))) (by (repeat' (first|exact RnV.leaf rfl|exact RnV.fs|exact RnC.nil|apply RnC.cons|apply RnV.ag|apply RnV.tu|apply RnV.fn|exact RnV.bp rfl))) rfl ?_)|((with_reducible apply AP.k_any);refine AP.CB [(0,0)] 0 (rbad_ac (0,b)) ?_))<;>(try simp only [nx,Nat.reduceAdd,Nat.reduceSub,BEq.rfl]))|((with_reducible apply AP.k_nil);first|(refine AP.nil (hQ' _ ?_);clear hQ' Q')|refine AP.nil ?_)|((with_reducible apply CP.k_reg);refine cp_regG fun Q' hQ'=>?_)|refine CP.W ?_|refine cp_cond rfl (fun hc=>?_) (fun hc=>?_)|(simp only [List.append_eq,List.cons_append,List.nil_append]))
        all_goals first
          | (exfalso;simp at *;done)
          | (exfalso;simp at *;omega)
          | (simp only [htk]
             (exact RetQ.A [(0,0),(1,0),(2,0)] (by exact ⟨rfl,rfl⟩)))
      | false=>
        rw [hg2] at hf'
        simp only [Bool.false_eq_true,if_false]
        refine AC.N Tryz.func146 Tryz.ntmps146 ?_
        intro X hρ hmks
        simp only [nx,Nat.reduceAdd,Nat.reduceSub,BEq.rfl]
        repeat' (first|((first|((with_reducible apply AP.k_any);first|refine AP.S ?_|(refine AP.Y ?_;dsimp only)|refine AP.G (fun hg=>?_) (fun hg=>?_))|((with_reducible apply AP.k_any);refine AP.CB [(0,0)] 0 (fine_ac (0,b)) ?_)|((with_reducible apply AP.k_any);refine ap_callB 0 [(1,0),(2,0)] rfl rfl (fn:=f) rfl hf' (by (repeat' (first|exact PasC.nil|apply PasC.nil|apply PasC.cons|apply PasV.leaf rfl|apply PasV.nl|apply PasV.bp rfl|apply PasV.vp rfl|apply PasV.hk rfl|apply PasV.pz|exact VsM.nil|apply VsM.cons rfl|apply PasV.lend rfl rfl rfl|apply PasV.lend rfl rfl (ro_B _)|apply PasV.lend rfl rfl (ro_M _)|apply PasV.lend rfl rfl (ro_E _ _)|apply PasV.lend rfl rfl (ro_I _)|apply PasV.lend rfl rfl (by (simp only [rn,List.map_cons,List.map_nil];first|done|rfl))|apply PasV.mv rfl|apply PasV.ag|apply PasV.fn|exact PasV.fs|apply PasV.any))) (by (repeat' (first|exact Out.nil|apply Out.cons rfl|apply Out.r rfl|apply Out.f rfl|exact ClsC.nil|apply ClsC.nl|apply ClsC.leaf rfl|apply ClsC.hd rfl|apply ClsC.ob rfl|apply ClsC.mo rfl|apply ClsC.mp rfl|apply ClsC.hp rfl|apply ClsC.fn|apply ClsC.fz rfl (ro_B _)|apply ClsC.fz rfl (ro_M _)|apply ClsC.fz rfl (ro_E _ _)|apply ClsC.fz rfl rfl))) rfl (by (repeat' (first|exact Bk.nil|apply Bk.cons rfl rfl rfl|apply Bk.r rfl))) (by (repeat' (first|exact RnV.leaf rfl|exact RnV.fs|exact RnC.nil|apply RnC.cons|apply RnV.ag|apply RnV.tu|apply RnV.fn|exact RnV.bp rfl))) rfl ?_)|((with_reducible apply AP.k_any);refine AP.CB [(0,0)] 0 (rbad_ac (0,b)) ?_))<;>(try simp only [nx,Nat.reduceAdd,Nat.reduceSub,BEq.rfl]))|((with_reducible apply AP.k_nil);first|(refine AP.nil (hQ' _ ?_);clear hQ' Q')|refine AP.nil ?_)|((with_reducible apply CP.k_reg);refine cp_regG fun Q' hQ'=>?_)|refine CP.W ?_|refine cp_cond rfl (fun hc=>?_) (fun hc=>?_)|(simp only [List.append_eq,List.cons_append,List.nil_append]))
        all_goals first
          | (exfalso;simp at *;done)
          | (exfalso;simp at *;omega)
          | (exact RetQ.A [(0,0),(1,0),(2,0)] (by exact ⟨rfl,rfl⟩))
  · have ht:takeS (0:Int) g n (e,b)=((0:Int),(e,b)):=by simp [takeS,he]
    have hb:((e:Int) == 0)=false:=by simp [he]
    rw [ht]
    refine AC.N Tryz.func146 Tryz.ntmps146 ?_
    intro X hρ hmks
    simp only [nx,Nat.reduceAdd,Nat.reduceSub,BEq.rfl]
    repeat' (first|((first|((with_reducible apply AP.k_any);first|refine AP.S ?_|(refine AP.Y ?_;dsimp only)|refine AP.G (fun hg=>?_) (fun hg=>?_))|((with_reducible apply AP.k_any);refine AP.CB [(0,0)] 0 (fine_ac (e,b)) ?_))<;>(try simp only [nx,Nat.reduceAdd,Nat.reduceSub,BEq.rfl]))|((with_reducible apply AP.k_nil);first|(refine AP.nil (hQ' _ ?_);clear hQ' Q')|refine AP.nil ?_)|((with_reducible apply CP.k_reg);refine cp_regG fun Q' hQ'=>?_)|refine CP.W ?_|refine cp_cond rfl (fun hc=>?_) (fun hc=>?_)|(simp only [List.append_eq,List.cons_append,List.nil_append]))
    all_goals first
      | (exfalso;simp at *;done)
      | (exfalso;simp at *;omega)
      | (exact RetQ.A [(0,0),(1,0),(2,0)] (by exact ⟨rfl,rfl⟩))
end Go.Proofs.YtmgneincjfhaoaaGreat

namespace Go.Proofs.YtmgneincjfhaoaaGreat
set_option linter.unusedVariables false
set_option linter.unusedSimpArgs false
set_option maxHeartbeats 8000000
open Go.RowKit
set_option maxRecDepth 100000
theorem load64_ac (b:List UInt8) (hb:b.length≤100000000):AC Tryz.prog 148 [bs none b,I 0] [] (fun v bs'=>v=.tu [.sc (.int .u64 ((loadS b 0 8).1:Int)),B (loadS b 0 8).2]∧bs'=[]):=by
  have h:=load_ac b 0 8 (by omega) hb (by omega) (by omega)
  refine AC.N Tryz.func148 Tryz.ntmps148 ?_
  intro X hρ hmks
  simp only [nx,Nat.reduceAdd,Nat.reduceSub,BEq.rfl]
  repeat' (first|((first|((with_reducible apply AP.k_any);first|refine AP.S ?_)|((with_reducible apply AP.k_any);refine AP.C (h) ?_))<;>(try simp only [nx,Nat.reduceAdd,Nat.reduceSub,BEq.rfl]))|((with_reducible apply AP.k_nil);first|(refine AP.nil (hQ' _ ?_);clear hQ' Q')|refine AP.nil ?_)|((with_reducible apply CP.k_reg);refine cp_regG fun Q' hQ'=>?_)|refine CP.W ?_|refine cp_cond rfl (fun hc=>?_) (fun hc=>?_)|(simp only [List.append_eq,List.cons_append,List.nil_append]))
  (refine RetQ.B [] ?_;(try dsimp only [resV,List.getD_cons_succ,List.getD_cons_zero]);(exact ⟨rfl,rfl⟩))
theorem ldw32_ac (b:List UInt8) (hb:b.length≤100000000):AC Tryz.prog 150 [bs none b,I 0] [] (fun v bs'=>v=.tu [.sc (.int .u32 ((loadS b 0 4).1:Int)),B (loadS b 0 4).2]∧bs'=[]):=by
  have h:=load_ac b 0 4 (by omega) hb (by omega) (by omega)
  have hw:IntKind.u32.wrap ((loadS b 0 4).1:Int)=((loadS b 0 4).1:Int):=by
    have h1:(loadS b 0 4).1 < 4294967296:=by
      unfold loadS
      split
      · simp
      · have:=beN_lt ((b.drop (0:Int).toNat).take 4)
        have h2:256 ^ ((b.drop (0:Int).toNat).take 4).length≤256 ^ 4:=Nat.pow_le_pow_right (by omega) (by simp;omega)
        simp at this h2 ⊢
        omega
    simp [IntKind.wrap,IntKind.bits,IntKind.signed];omega
  refine AC.N Tryz.func150 Tryz.ntmps150 ?_
  intro X hρ hmks
  simp only [nx,Nat.reduceAdd,Nat.reduceSub,BEq.rfl]
  repeat' (first|((first|((with_reducible apply AP.k_any);first|refine AP.S ?_)|((with_reducible apply AP.k_any);refine AP.C (h) ?_))<;>(try simp only [nx,Nat.reduceAdd,Nat.reduceSub,BEq.rfl]))|((with_reducible apply AP.k_nil);first|(refine AP.nil (hQ' _ ?_);clear hQ' Q')|refine AP.nil ?_)|((with_reducible apply CP.k_reg);refine cp_regG fun Q' hQ'=>?_)|refine CP.W ?_|refine cp_cond rfl (fun hc=>?_) (fun hc=>?_)|(simp only [List.append_eq,List.cons_append,List.nil_append]))
  simp only [hw]
  (refine RetQ.B [] ?_;(try dsimp only [resV,List.getD_cons_succ,List.getD_cons_zero]);(exact ⟨rfl,rfl⟩))
theorem loadS_all {b:List UInt8} {n:Nat} (h:b.length=n):loadS b 0 n=(beN b,true):=by
  have h1:¬ ((0:Int) < 0∨(b.length:Int) - n < 0):=by omega
  simp only [loadS,if_neg h1]
  simp [←h]
def toI (n:Nat):Int:=IntKind.i64.wrap n
def byteG (b:List UInt8):UInt8×Bool:=(b.headD 0,true)
def intG (b:List UInt8):Int×Bool:=(toI (beN b),true)
def flagG (b:List UInt8):Bool×Bool:=(b.headD 0 == 1,decide (b.headD 0≤1))
def lenG (b:List UInt8):Int×Bool:=(beN b,decide (beN b≤65536))
def bytesG (b:List UInt8):List UInt8×Bool:=(b,true)
def countG (m l:Int) (b:List UInt8):Int×Bool:=(toI (beN b),decide (0≤toI (beN b)) && decide (toI (beN b)≤m) && decide (toI (beN b)≤l))
theorem len1 {b:List UInt8} (h:b.length=1):∃ x,b=[x]:=by
  match b,h with
  | [x],_=>exact ⟨x,rfl⟩
theorem rbyte1_ac (b:List UInt8) (h:b.length=1):AC Tryz.prog 125 [bs none b] [] (fun v bs'=>v=.tu [U (byteG b).1,B (byteG b).2]∧bs'=[]):=by
  obtain ⟨x,rfl⟩:=len1 h
  refine AC.N Tryz.func125 Tryz.ntmps125 ?_
  intro X hρ hmks
  simp only [nx,Nat.reduceAdd,Nat.reduceSub,BEq.rfl]
  repeat' (first|((first|((with_reducible apply AP.k_any);first|refine AP.S ?_|refine AP.E ?_))<;>(try simp only [nx,Nat.reduceAdd,Nat.reduceSub,BEq.rfl]))|((with_reducible apply AP.k_nil);first|(refine AP.nil (hQ' _ ?_);clear hQ' Q')|refine AP.nil ?_)|((with_reducible apply CP.k_reg);refine cp_regG fun Q' hQ'=>?_)|refine CP.W ?_|refine cp_cond rfl (fun hc=>?_) (fun hc=>?_)|(simp only [List.append_eq,List.cons_append,List.nil_append]))
  (refine RetQ.B [] ?_;(try dsimp only [resV,List.getD_cons_succ,List.getD_cons_zero]);(exact ⟨rfl,rfl⟩))
theorem rint1_ac (b:List UInt8) (h:b.length=8):AC Tryz.prog 147 [bs none b] [] (fun v bs'=>v=.tu [I (intG b).1,B (intG b).2]∧bs'=[]):=by
  have hl:=load64_ac b (by omega)
  rw [loadS_all h] at hl
  refine AC.N Tryz.func147 Tryz.ntmps147 ?_
  intro X hρ hmks
  simp only [nx,Nat.reduceAdd,Nat.reduceSub,BEq.rfl]
  repeat' (first|((first|((with_reducible apply AP.k_any);first|refine AP.S ?_)|((with_reducible apply AP.k_any);refine AP.C (hl) ?_))<;>(try simp only [nx,Nat.reduceAdd,Nat.reduceSub,BEq.rfl]))|((with_reducible apply AP.k_nil);first|(refine AP.nil (hQ' _ ?_);clear hQ' Q')|refine AP.nil ?_)|((with_reducible apply CP.k_reg);refine cp_regG fun Q' hQ'=>?_)|refine CP.W ?_|refine cp_cond rfl (fun hc=>?_) (fun hc=>?_)|(simp only [List.append_eq,List.cons_append,List.nil_append]))
  (refine RetQ.B [] ?_;(try dsimp only [resV,List.getD_cons_succ,List.getD_cons_zero]);(exact ⟨rfl,rfl⟩))
theorem rflag1_ac (b:List UInt8) (h:b.length=1):AC Tryz.prog 221 [bs none b] [] (fun v bs'=>v=.tu [B (flagG b).1,B (flagG b).2]∧bs'=[]):=by
  obtain ⟨x,rfl⟩:=len1 h
  refine AC.N Tryz.func221 Tryz.ntmps221 ?_
  intro X hρ hmks
  simp only [nx,Nat.reduceAdd,Nat.reduceSub,BEq.rfl]
  repeat' (first|((first|((with_reducible apply AP.k_any);first|refine AP.S ?_|refine AP.E ?_|(refine AP.V (fun c hnil=>?_);simp only [nz]))|((with_reducible apply AQ.k_any);first|refine AQ.S ?_|refine AQ.E ?_))<;>(try simp only [nx,Nat.reduceAdd,Nat.reduceSub,BEq.rfl]))|((with_reducible apply AP.k_nil);first|(refine AP.nil (hQ' _ ?_);clear hQ' Q')|refine AP.nil ?_)|((with_reducible apply AQ.k_nil);first|(refine AQ.nil (hQ' _ ?_);clear hQ' Q')|refine AQ.nil ?_)|((with_reducible apply CP.k_drw);refine cp_drw (by kernel_rfl) (by kernel_rfl) fun Q' hQ'=>?_)|((with_reducible apply CP.k_drw1);refine cp_draw (by kernel_rfl) (by kernel_rfl) ?_)|((with_reducible apply CP.k_reg);refine cp_regG fun Q' hQ'=>?_)|refine CP.W ?_|refine cp_cond rfl (fun hc=>?_) (fun hc=>?_)|(simp only [List.append_eq,List.cons_append,List.nil_append]))
  (refine RetQ.B [] ?_;(try dsimp only [resV,List.getD_cons_succ,List.getD_cons_zero]);((refine ⟨?_,rfl⟩;simp [flagG,UInt8.le_iff_toNat_le,beq_iff_eq];try (rw [Bool.eq_iff_iff];simp [←UInt8.toNat_inj];try omega))))
theorem rlen1_ac (b:List UInt8) (h:b.length=4):AC Tryz.prog 149 [bs none b] [] (fun v bs'=>v=.tu [I (lenG b).1,B (lenG b).2]∧bs'=[]):=by
  have hl:=ldw32_ac b (by omega)
  rw [loadS_all h] at hl
  have hb:=beN_lt b
  rw [h] at hb
  have hw:IntKind.i64.wrap (beN b:Int)=(beN b:Int):=wrap_i64 (by omega) (by omega)
  refine AC.N Tryz.func149 Tryz.ntmps149 ?_
  intro X hρ hmks
  simp only [nx,Nat.reduceAdd,Nat.reduceSub,BEq.rfl]
  repeat' (first|((first|((with_reducible apply AP.k_any);first|refine AP.S ?_)|((with_reducible apply AP.k_any);refine AP.C (hl) ?_))<;>(try simp only [nx,Nat.reduceAdd,Nat.reduceSub,BEq.rfl]))|((with_reducible apply AP.k_nil);first|(refine AP.nil (hQ' _ ?_);clear hQ' Q')|refine AP.nil ?_)|((with_reducible apply CP.k_reg);refine cp_regG fun Q' hQ'=>?_)|refine CP.W ?_|refine cp_cond rfl (fun hc=>?_) (fun hc=>?_)|(simp only [List.append_eq,List.cons_append,List.nil_append]))
  simp only [hw]
  (refine RetQ.B [] ?_;(try dsimp only [resV,List.getD_cons_succ,List.getD_cons_zero]);((refine ⟨?_,rfl⟩;simp [lenG];try omega)))
theorem rbytes1_ac (b:List UInt8) (h:b.length≤100000000):AC Tryz.prog 152 [bs none b] [] (fun v bs'=>v=.tu [bs none (bytesG b).1,B (bytesG b).2]∧bs'=[]):=by
  have hcat:=(wcat_ac [b] (by simp) (by simp;omega)).ro (r2:=bs none b) (by simp [AV.ro,ro_B])
  refine AC.N Tryz.func152 Tryz.ntmps152 ?_
  intro X hρ hmks
  simp only [nx,Nat.reduceAdd,Nat.reduceSub,BEq.rfl]
  repeat' (first|((first|((with_reducible apply AP.k_any);first|refine AP.Z ?_)|((with_reducible apply AP.k_any);refine AP.C (hcat) ?_)|((with_reducible apply AP.k_any);refine AP.gh (gh_fz (b:=0) (u:=1) rfl rfl (by (repeat' (first|exact FzC.nil|apply FzC.cons|exact FzV.hd|apply FzV.ag|exact FzV.same))) (by (repeat' (first|exact FzB.nil|apply FzB.c|apply FzB.same|exact FzC.nil|apply FzC.cons|exact FzV.hd|apply FzV.ag|exact FzV.same)))) ?_;first|simp only [roE,roC,AV.ro,ro_B,ro_M,ro_E]|simp only [roE,roC,AV.ro,ro_B]))<;>(try simp only [nx,Nat.reduceAdd,Nat.reduceSub,BEq.rfl]))|((with_reducible apply AP.k_nil);first|(refine AP.nil (hQ' _ ?_);clear hQ' Q')|refine AP.nil ?_)|((with_reducible apply CP.k_reg);refine cp_regG fun Q' hQ'=>?_)|refine CP.W ?_|refine cp_cond rfl (fun hc=>?_) (fun hc=>?_)|(simp only [List.append_eq,List.cons_append,List.nil_append]))
  (refine RetQ.B [] ?_;(try dsimp only [resV,List.getD_cons_succ,List.getD_cons_zero]);(exact ⟨rfl,rfl⟩))
theorem rcount1_ac (m l:Int) (b:List UInt8) (h:b.length=8):AC Tryz.prog 219 [bs none b,.bp 0 0 0,.bp 1 0 0] [iB m,iB l] (fun v bs'=>v=.tu [I (countG m l b).1,B (countG m l b).2]∧bs'=[iB m,iB l]):=by
  have hl:=load64_ac b (by omega)
  rw [loadS_all h] at hl
  refine AC.N Tryz.func219 Tryz.ntmps219 ?_
  intro X hρ hmks
  simp only [nx,Nat.reduceAdd,Nat.reduceSub,BEq.rfl]
  repeat' (first|((first|((with_reducible apply AP.k_any);first|refine AP.S ?_|(refine AP.Y ?_;dsimp only)|refine AP.G (fun hg=>?_) (fun hg=>?_))|((with_reducible apply AP.k_any);refine AP.C (hl) ?_)|((with_reducible apply AQ.k_any);first|refine AQ.S ?_|(refine AQ.Y ?_;dsimp only)|refine AQ.G (fun hg=>?_) (fun hg=>?_)))<;>(try simp only [nx,Nat.reduceAdd,Nat.reduceSub,BEq.rfl]))|((with_reducible apply AP.k_nil);first|(refine AP.nil (hQ' _ ?_);clear hQ' Q')|refine AP.nil ?_)|((with_reducible apply AQ.k_nil);first|(refine AQ.nil (hQ' _ ?_);clear hQ' Q')|refine AQ.nil ?_)|((with_reducible apply CP.k_drw);refine cp_drw (by kernel_rfl) (by kernel_rfl) fun Q' hQ'=>?_)|((with_reducible apply CP.k_drw1);refine cp_draw (by kernel_rfl) (by kernel_rfl) ?_)|((with_reducible apply CP.k_reg);refine cp_regG fun Q' hQ'=>?_)|refine CP.W ?_|refine cp_cond rfl (fun hc=>?_) (fun hc=>?_)|(simp only [List.append_eq,List.cons_append,List.nil_append]))
  all_goals (refine RetQ.B [(0,0),(1,0)] ?_;(try dsimp only [resV,List.getD_cons_succ,List.getD_cons_zero]);((refine ⟨?_,rfl⟩;simp at *;simp [countG,toI,*];try (first|rfl|(intro h1;exfalso;have h2:=of_decide_eq_true h1;omega)))))
theorem takeS_len {α:Type} {z:α} {f:List UInt8→α×Bool} {n:Int} {st:Int×List UInt8} {k:Nat} (h:st.2.length≤k):(takeS z f n st).2.2.length≤k:=by
  unfold takeS
  split
  · exact h
  · split
    · simp
    · split
      · simp;omega
      · simp
def byteR (st:Int×List UInt8):UInt8×(Int×List UInt8):=takeS 0 byteG 1 st
def intR (st:Int×List UInt8):Int×(Int×List UInt8):=takeS 0 intG 8 st
def flagR (st:Int×List UInt8):Bool×(Int×List UInt8):=takeS false flagG 1 st
def lenR (st:Int×List UInt8):Int×(Int×List UInt8):=takeS 0 lenG 4 st
def bytesR (st:Int×List UInt8):List UInt8×(Int×List UInt8):=takeS [] bytesG (lenR st).1 (lenR st).2
def leftR (st:Int×List UInt8):Int:=if st.1=0 then st.2.length else 0
def countR (m:Int) (st:Int×List UInt8):Int×(Int×List UInt8):=takeS 0 (countG m (leftR st - 8)) 8 st
def endR (st:Int×List UInt8):Int:=if st.1=0 then (if st.2=[] then 0 else 40) else st.1
theorem rbyte_ac (st:Int×List UInt8) (hst:st.2.length≤100000000):AC Tryz.prog 81 [.bp 0 0 0] [rB st] (fun v bs'=>v=U (byteR st).1∧bs'=[rB (byteR st).2]):=by
  have h:=take1_ac 125 byteG 1 st hst (fun b hb _=>rbyte1_ac b hb)
  refine AC.N Tryz.func81 Tryz.ntmps81 ?_
  intro X hρ hmks
  simp only [nx,Nat.reduceAdd,Nat.reduceSub,BEq.rfl]
  repeat' (first|((first|((with_reducible apply AP.k_any);first|refine AP.S ?_)|((with_reducible apply AP.k_any);refine AP.CB [(0,0)] 0 (h) ?_))<;>(try simp only [nx,Nat.reduceAdd,Nat.reduceSub,BEq.rfl]))|((with_reducible apply AP.k_nil);first|(refine AP.nil (hQ' _ ?_);clear hQ' Q')|refine AP.nil ?_)|((with_reducible apply CP.k_reg);refine cp_regG fun Q' hQ'=>?_)|refine CP.W ?_|refine cp_cond rfl (fun hc=>?_) (fun hc=>?_)|(simp only [List.append_eq,List.cons_append,List.nil_append]))
  (exact RetQ.A [(0,0)] (by exact ⟨rfl,rfl⟩))
theorem rint_ac (st:Int×List UInt8) (hst:st.2.length≤100000000):AC Tryz.prog 115 [.bp 0 0 0] [rB st] (fun v bs'=>v=I (intR st).1∧bs'=[rB (intR st).2]):=by
  have h:=take3_ac 147 intG 8 st hst (fun b hb _=>rint1_ac b hb)
  refine AC.N Tryz.func115 Tryz.ntmps115 ?_
  intro X hρ hmks
  simp only [nx,Nat.reduceAdd,Nat.reduceSub,BEq.rfl]
  repeat' (first|((first|((with_reducible apply AP.k_any);first|refine AP.S ?_)|((with_reducible apply AP.k_any);refine AP.CB [(0,0)] 0 (h) ?_))<;>(try simp only [nx,Nat.reduceAdd,Nat.reduceSub,BEq.rfl]))|((with_reducible apply AP.k_nil);first|(refine AP.nil (hQ' _ ?_);clear hQ' Q')|refine AP.nil ?_)|((with_reducible apply CP.k_reg);refine cp_regG fun Q' hQ'=>?_)|refine CP.W ?_|refine cp_cond rfl (fun hc=>?_) (fun hc=>?_)|(simp only [List.append_eq,List.cons_append,List.nil_append]))
  (exact RetQ.A [(0,0)] (by exact ⟨rfl,rfl⟩))
theorem rflag_ac (st:Int×List UInt8) (hst:st.2.length≤100000000):AC Tryz.prog 211 [.bp 0 0 0] [rB st] (fun v bs'=>v=B (flagR st).1∧bs'=[rB (flagR st).2]):=by
  have h:=take2_ac 221 flagG 1 st hst (fun b hb _=>rflag1_ac b hb)
  refine AC.N Tryz.func211 Tryz.ntmps211 ?_
  intro X hρ hmks
  simp only [nx,Nat.reduceAdd,Nat.reduceSub,BEq.rfl]
  repeat' (first|((first|((with_reducible apply AP.k_any);first|refine AP.S ?_)|((with_reducible apply AP.k_any);refine AP.CB [(0,0)] 0 (h) ?_))<;>(try simp only [nx,Nat.reduceAdd,Nat.reduceSub,BEq.rfl]))|((with_reducible apply AP.k_nil);first|(refine AP.nil (hQ' _ ?_);clear hQ' Q')|refine AP.nil ?_)|((with_reducible apply CP.k_reg);refine cp_regG fun Q' hQ'=>?_)|refine CP.W ?_|refine cp_cond rfl (fun hc=>?_) (fun hc=>?_)|(simp only [List.append_eq,List.cons_append,List.nil_append]))
  (exact RetQ.A [(0,0)] (by exact ⟨rfl,rfl⟩))
theorem rbytes_ac (st:Int×List UInt8) (hst:st.2.length≤100000000):AC Tryz.prog 116 [.bp 0 0 0] [rB st] (fun v bs'=>v=bs none (bytesR st).1∧bs'=[rB (bytesR st).2]):=by
  have h:=take3_ac 149 lenG 4 st hst (fun b hb _=>rlen1_ac b hb)
  have h2:=take4_ac 152 bytesG (lenR st).1 (lenR st).2 (takeS_len hst) (fun b _ hb=>rbytes1_ac b (Nat.le_trans hb (takeS_len hst)))
  refine AC.N Tryz.func116 Tryz.ntmps116 ?_
  intro X hρ hmks
  simp only [nx,Nat.reduceAdd,Nat.reduceSub,BEq.rfl]
  repeat' (first|((first|((with_reducible apply AP.k_any);first|refine AP.S ?_)|((with_reducible apply AP.k_any);refine AP.CB [(0,0)] 0 (h) ?_)|((with_reducible apply AP.k_any);refine AP.CB [(0,0)] 0 (h2) ?_))<;>(try simp only [nx,Nat.reduceAdd,Nat.reduceSub,BEq.rfl]))|((with_reducible apply AP.k_nil);first|(refine AP.nil (hQ' _ ?_);clear hQ' Q')|refine AP.nil ?_)|((with_reducible apply CP.k_reg);refine cp_regG fun Q' hQ'=>?_)|refine CP.W ?_|refine cp_cond rfl (fun hc=>?_) (fun hc=>?_)|(simp only [List.append_eq,List.cons_append,List.nil_append]))
  (exact RetQ.A [(0,0)] (by exact ⟨rfl,rfl⟩))
theorem rleft_ac (st:Int×List UInt8):AC Tryz.prog 218 [.bp 0 0 0] [rB st] (fun v bs'=>v=I (leftR st)∧bs'=[rB st]):=by
  refine AC.N Tryz.func218 Tryz.ntmps218 ?_
  intro X hρ hmks
  simp only [nx,Nat.reduceAdd,Nat.reduceSub,BEq.rfl]
  repeat' (first|((first|((with_reducible apply AP.k_any);first|refine AP.S ?_)|((with_reducible apply AP.k_any);refine AP.CB [(0,0)] 0 (fine_ac st) ?_))<;>(try simp only [nx,Nat.reduceAdd,Nat.reduceSub,BEq.rfl]))|((with_reducible apply AP.k_nil);first|(refine AP.nil (hQ' _ ?_);clear hQ' Q')|refine AP.nil ?_)|((with_reducible apply CP.k_reg);refine cp_regG fun Q' hQ'=>?_)|refine CP.W ?_|refine cp_cond rfl (fun hc=>?_) (fun hc=>?_)|(simp only [List.append_eq,List.cons_append,List.nil_append]))
  · (refine RetQ.B [(0,0)] ?_;(try dsimp only [resV,List.getD_cons_succ,List.getD_cons_zero]);((refine ⟨?_,rfl⟩;simp at *;simp [leftR,*])))
  · (refine RetQ.B [(0,0)] ?_;(try dsimp only [resV,List.getD_cons_succ,List.getD_cons_zero]);((refine ⟨?_,rfl⟩;simp at *;simp [leftR,*])))
theorem rcount_ac (m:Int) (st:Int×List UInt8) (hst:st.2.length≤100000000):AC Tryz.prog 205 [.bp 0 0 0,I m] [rB st] (fun v bs'=>v=I (countR m st).1∧bs'=[rB (countR m st).2]):=by
  have h:=take5_ac m (leftR st - 8) 219 (countG m (leftR st - 8)) 8 st hst (fun b hb _=>rcount1_ac m _ b hb)
  have hw:IntKind.i64.wrap (leftR st - 8)=leftR st - 8:=by
    have:0≤leftR st∧leftR st≤100000000:=by unfold leftR;split<;>omega
    exact wrap_i64 (by omega) (by omega)
  refine AC.N Tryz.func205 Tryz.ntmps205 ?_
  intro X hρ hmks
  simp only [nx,Nat.reduceAdd,Nat.reduceSub,BEq.rfl]
  repeat' (first|((first|((with_reducible apply AP.k_any);first|refine AP.S ?_)|((with_reducible apply AP.k_any);refine AP.CB [(0,0)] 0 (rleft_ac st) ?_)|((with_reducible apply AP.k_any);simp only [hw];refine ap_callB 0 [(0,0),(1,1),(2,1)] rfl rfl (fn:=146) rfl (h) (by (repeat' (first|exact PasC.nil|apply PasC.nil|apply PasC.cons|apply PasV.leaf rfl|apply PasV.nl|apply PasV.bp rfl|apply PasV.vp rfl|apply PasV.hk rfl|apply PasV.pz|exact VsM.nil|apply VsM.cons rfl|apply PasV.lend rfl rfl rfl|apply PasV.lend rfl rfl (ro_B _)|apply PasV.lend rfl rfl (ro_M _)|apply PasV.lend rfl rfl (ro_E _ _)|apply PasV.lend rfl rfl (ro_I _)|apply PasV.lend rfl rfl (by (simp only [rn,List.map_cons,List.map_nil];first|done|rfl))|apply PasV.mv rfl|apply PasV.ag|apply PasV.fn|exact PasV.fs|apply PasV.any))) (by (repeat' (first|exact Out.nil|apply Out.cons rfl|apply Out.r rfl|apply Out.f rfl|exact ClsC.nil|apply ClsC.nl|apply ClsC.leaf rfl|apply ClsC.hd rfl|apply ClsC.ob rfl|apply ClsC.mo rfl|apply ClsC.mp rfl|apply ClsC.hp rfl|apply ClsC.fn|apply ClsC.fz rfl (ro_B _)|apply ClsC.fz rfl (ro_M _)|apply ClsC.fz rfl (ro_E _ _)|apply ClsC.fz rfl rfl))) rfl (by (repeat' (first|exact Bk.nil|apply Bk.cons rfl rfl rfl|apply Bk.r rfl))) (by (repeat' (first|exact RnV.leaf rfl|exact RnV.fs|exact RnC.nil|apply RnC.cons|apply RnV.ag|apply RnV.tu|apply RnV.fn|exact RnV.bp rfl))) rfl ?_))<;>(try simp only [nx,Nat.reduceAdd,Nat.reduceSub,BEq.rfl]))|((with_reducible apply AP.k_nil);first|(refine AP.nil (hQ' _ ?_);clear hQ' Q')|refine AP.nil ?_)|((with_reducible apply CP.k_reg);refine cp_regG fun Q' hQ'=>?_)|refine CP.W ?_|refine cp_cond rfl (fun hc=>?_) (fun hc=>?_)|(simp only [List.append_eq,List.cons_append,List.nil_append]))
  (exact RetQ.A [(0,0)] (by exact ⟨rfl,rfl⟩))
theorem rerr_ac (st:Int×List UInt8):AC Tryz.prog 127 [.bp 0 0 0] [rB st] (fun v bs'=>v=I st.1∧bs'=[rB st]):=by
  refine AC.N Tryz.func127 Tryz.ntmps127 ?_
  intro X hρ hmks
  simp only [nx,Nat.reduceAdd,Nat.reduceSub,BEq.rfl]
  repeat' (first|((first|((with_reducible apply AP.k_any);first|refine AP.S ?_|(refine AP.Y ?_;dsimp only)|refine AP.G (fun hg=>?_) (fun hg=>?_)|(refine AP.V (fun c hnil=>?_);simp only [nz])))<;>(try simp only [nx,Nat.reduceAdd,Nat.reduceSub,BEq.rfl]))|((with_reducible apply AP.k_nil);first|(refine AP.nil (hQ' _ ?_);clear hQ' Q')|refine AP.nil ?_)|((with_reducible apply CP.k_reg);refine cp_regG fun Q' hQ'=>?_)|refine CP.W ?_|refine cp_cond rfl (fun hc=>?_) (fun hc=>?_)|(simp only [List.append_eq,List.cons_append,List.nil_append]))
  (exact RetQ.A [(0,0)] (by exact ⟨rfl,rfl⟩))
theorem rend_ac (st:Int×List UInt8):AC Tryz.prog 83 [.bp 0 0 0] [rB st] (fun v bs'=>v=I (endR st)∧bs'=[rB st]):=by
  refine AC.N Tryz.func83 Tryz.ntmps83 ?_
  intro X hρ hmks
  simp only [nx,Nat.reduceAdd,Nat.reduceSub,BEq.rfl]
  repeat' (first|((first|((with_reducible apply AP.k_any);first|refine AP.S ?_|(refine AP.V (fun c hnil=>?_);simp only [nz]))|((with_reducible apply AP.k_any);refine AP.CB [(0,0)] 0 (rerr_ac st) ?_))<;>(try simp only [nx,Nat.reduceAdd,Nat.reduceSub,BEq.rfl]))|((with_reducible apply AP.k_nil);first|(refine AP.nil (hQ' _ ?_);clear hQ' Q')|refine AP.nil ?_)|((with_reducible apply CP.k_reg);refine cp_regG fun Q' hQ'=>?_)|refine CP.W ?_|refine cp_cond rfl (fun hc=>?_) (fun hc=>?_)|(simp only [List.append_eq,List.cons_append,List.nil_append]))
  all_goals (refine RetQ.B [(0,0)] ?_;(try dsimp only [resV,List.getD_cons_succ,List.getD_cons_zero]);((refine ⟨?_,rfl⟩;simp at *;simp [endR,*];try (intro h;simp [h] at *))))
end Go.Proofs.YtmgneincjfhaoaaGreat

namespace Go.Proofs.YtmgneincjfhaoaaGreat
set_option linter.unusedVariables false
set_option linter.unusedSimpArgs false
set_option maxHeartbeats 8000000
open Go.RowKit
set_option maxRecDepth 100000
/-- a reader of the document: bytes, how many are read, why it is bad -/
structure Rf where
  b:List UInt8
  at_:Nat
  bad:Int
/-- as the program's -/
def Rf.st (s:Rf):Int×List UInt8:=(s.bad,if s.bad=0 then s.b.drop s.at_ else [])
def Rf.ok (s:Rf):Prop:=s.at_≤s.b.length∧s.b.length≤100000000
end Go.Proofs.YtmgneincjfhaoaaGreat

namespace Go.Proofs.YtmgneincjfhaoaaGreat
set_option linter.unusedVariables false
set_option linter.unusedSimpArgs false
open Go.RowKit
set_option maxRecDepth 100000
def Rf.left (s:Rf):Nat:=s.b.length - s.at_
end Go.Proofs.YtmgneincjfhaoaaGreat

namespace Go.Proofs.YtmgneincjfhaoaaGreat
set_option linter.unusedVariables false
set_option linter.unusedSimpArgs false
set_option maxHeartbeats 8000000
open Go.RowKit
set_option maxRecDepth 100000
abbrev z32:List UInt8:=List.replicate 32 0
def tagG (b:List UInt8):List UInt8×Bool:=(b,true)
def tagR (st:Int×List UInt8):List UInt8×(Int×List UInt8):=takeS z32 tagG 32 st
theorem rtag1_ac (b:List UInt8) (h:b.length=32):AC Tryz.prog 154 [bs none b] [] (fun v bs'=>v=.tu [tg (tagG b).1,B (tagG b).2]∧bs'=[]):=by
  dsimp only [tagG]
  rw [ex32 h]
  refine AC.N Tryz.func154 Tryz.ntmps154 ?_
  intro X hρ hmks
  simp only [nx,Nat.reduceAdd,Nat.reduceSub,BEq.rfl]
  repeat' (first|((first|((with_reducible apply AP.k_any);first|refine AP.S ?_|refine AP.E ?_|refine AP.T ?_|refine AP.A ?_|refine AP.AB 0 ?_|refine AP.AB 1 ?_|refine AP.AL ?_|refine AP.SA ?_))<;>(try simp only [nx,Nat.reduceAdd,Nat.reduceSub,BEq.rfl]))|((with_reducible apply AP.k_nil);first|(refine AP.nil (hQ' _ ?_);clear hQ' Q')|refine AP.nil ?_)|((with_reducible apply CP.k_reg);refine cp_regG fun Q' hQ'=>?_)|refine CP.W ?_|refine cp_cond rfl (fun hc=>?_) (fun hc=>?_)|(simp only [List.append_eq,List.cons_append,List.nil_append]))
  (exact RetQ.A [] (by exact ⟨rfl,rfl⟩))
theorem take6_ac (f:Nat) (g:List UInt8→List UInt8×Bool) (n:Int) (st:Int×List UInt8) (hst:st.2.length≤100000000) (hf:∀ b:List UInt8,b.length=n.toNat→b.length≤st.2.length→AC Tryz.prog f [bs none b] [] (fun v bs'=>v=.tu [tg (g b).1,B (g b).2]∧bs'=[])) :
    AC Tryz.prog 153 [.bp 0 0 0,I n,.fn f []] [rB st] (fun v bs'=>v=tg (takeS z32 g n st).1∧bs'=[rB (takeS z32 g n st).2]):=by
  obtain ⟨e,b⟩:=st
  by_cases he:e=0
  · subst he
    by_cases hn:n < 0∨(b.length:Int) < n
    · have ht:takeS z32 g n (0,b)=(z32,(40,[])):=by simp only [takeS,hn];simp
      rw [ht]
      refine AC.N Tryz.func153 Tryz.ntmps153 ?_
      intro X hρ hmks
      simp only [nx,Nat.reduceAdd,Nat.reduceSub,BEq.rfl]
      repeat' (first|((first|((with_reducible apply AP.k_any);first|refine AP.S ?_|(refine AP.Y ?_;dsimp only)|refine AP.G (fun hg=>?_) (fun hg=>?_))|((with_reducible apply AP.k_any);refine AP.CB [(0,0)] 0 (fine_ac (0,b)) ?_)|((with_reducible apply AP.k_any);refine AP.CB [(0,0)] 0 (rbad_ac (0,b)) ?_))<;>(try simp only [nx,Nat.reduceAdd,Nat.reduceSub,BEq.rfl]))|((with_reducible apply AP.k_nil);first|(refine AP.nil (hQ' _ ?_);clear hQ' Q')|refine AP.nil ?_)|((with_reducible apply CP.k_reg);refine cp_regG fun Q' hQ'=>?_)|refine CP.W ?_|refine cp_cond rfl (fun hc=>?_) (fun hc=>?_)|(simp only [List.append_eq,List.cons_append,List.nil_append]))
      all_goals first
        | (exfalso;simp at *;done)
        | (exfalso;simp at *;omega)
        | (exact RetQ.A [(0,0)] (by exact ⟨rfl,rfl⟩))
    · have hl:(b.take n.toNat).length=n.toNat:=by simp;omega
      have hf':=hf (b.take n.toNat) hl (by rw [List.length_take];exact Nat.min_le_right _ _)
      have htk:List.take (b.length - n.toNat) (List.drop n.toNat b)=List.drop n.toNat b:=List.take_of_length_le (by simp)
      have hn0:0≤n:=by omega
      have hn1:n≤(b.length:Int):=by omega
      have hm:n≤((b.map eB).length:Int):=by simp;omega
      have ht:takeS z32 g n (0,b)=if (g (b.take n.toNat)).2=true then ((g (b.take n.toNat)).1,(0,b.drop n.toNat)) else (z32,(40,[])):=by simp only [takeS,hn];simp
      rw [ht]
      cases hg2:(g (b.take n.toNat)).2 with
      | true=>
        rw [hg2] at hf'
        simp only [if_true]
        refine AC.N Tryz.func153 Tryz.ntmps153 ?_
        intro X hρ hmks
        simp only [nx,Nat.reduceAdd,Nat.reduceSub,BEq.rfl]
        repeat' (first|((first|((with_reducible apply AP.k_any);first|refine AP.S ?_|(refine AP.Y ?_;dsimp only)|refine AP.G (fun hg=>?_) (fun hg=>?_))|((with_reducible apply AP.k_any);refine AP.CB [(0,0)] 0 (fine_ac (0,b)) ?_)|((with_reducible apply AP.k_any);refine AP.C hf' ?_)|((with_reducible apply AP.k_any);refine AP.CB [(0,0)] 0 (rbad_ac (0,b)) ?_))<;>(try simp only [nx,Nat.reduceAdd,Nat.reduceSub,BEq.rfl]))|((with_reducible apply AP.k_nil);first|(refine AP.nil (hQ' _ ?_);clear hQ' Q')|refine AP.nil ?_)|((with_reducible apply CP.k_reg);refine cp_regG fun Q' hQ'=>?_)|refine CP.W ?_|refine cp_cond rfl (fun hc=>?_) (fun hc=>?_)|(simp only [List.append_eq,List.cons_append,List.nil_append]))
        all_goals first
          | (exfalso;simp at *;done)
          | (exfalso;simp at *;omega)
          | (simp only [htk]
             (exact RetQ.A [(0,0)] (by exact ⟨rfl,rfl⟩)))
      | false=>
        rw [hg2] at hf'
        simp only [Bool.false_eq_true,if_false]
        refine AC.N Tryz.func153 Tryz.ntmps153 ?_
        intro X hρ hmks
        simp only [nx,Nat.reduceAdd,Nat.reduceSub,BEq.rfl]
        repeat' (first|((first|((with_reducible apply AP.k_any);first|refine AP.S ?_|(refine AP.Y ?_;dsimp only)|refine AP.G (fun hg=>?_) (fun hg=>?_))|((with_reducible apply AP.k_any);refine AP.CB [(0,0)] 0 (fine_ac (0,b)) ?_)|((with_reducible apply AP.k_any);refine AP.C hf' ?_)|((with_reducible apply AP.k_any);refine AP.CB [(0,0)] 0 (rbad_ac (0,b)) ?_))<;>(try simp only [nx,Nat.reduceAdd,Nat.reduceSub,BEq.rfl]))|((with_reducible apply AP.k_nil);first|(refine AP.nil (hQ' _ ?_);clear hQ' Q')|refine AP.nil ?_)|((with_reducible apply CP.k_reg);refine cp_regG fun Q' hQ'=>?_)|refine CP.W ?_|refine cp_cond rfl (fun hc=>?_) (fun hc=>?_)|(simp only [List.append_eq,List.cons_append,List.nil_append]))
        all_goals first
          | (exfalso;simp at *;done)
          | (exfalso;simp at *;omega)
          | (exact RetQ.A [(0,0)] (by exact ⟨rfl,rfl⟩))
  · have ht:takeS z32 g n (e,b)=(z32,(e,b)):=by simp [takeS,he]
    have hb:((e:Int) == 0)=false:=by simp [he]
    rw [ht]
    refine AC.N Tryz.func153 Tryz.ntmps153 ?_
    intro X hρ hmks
    simp only [nx,Nat.reduceAdd,Nat.reduceSub,BEq.rfl]
    repeat' (first|((first|((with_reducible apply AP.k_any);first|refine AP.S ?_|(refine AP.Y ?_;dsimp only)|refine AP.G (fun hg=>?_) (fun hg=>?_))|((with_reducible apply AP.k_any);refine AP.CB [(0,0)] 0 (fine_ac (e,b)) ?_))<;>(try simp only [nx,Nat.reduceAdd,Nat.reduceSub,BEq.rfl]))|((with_reducible apply AP.k_nil);first|(refine AP.nil (hQ' _ ?_);clear hQ' Q')|refine AP.nil ?_)|((with_reducible apply CP.k_reg);refine cp_regG fun Q' hQ'=>?_)|refine CP.W ?_|refine cp_cond rfl (fun hc=>?_) (fun hc=>?_)|(simp only [List.append_eq,List.cons_append,List.nil_append]))
    all_goals first
      | (exfalso;simp at *;done)
      | (exfalso;simp at *;omega)
      | (exact RetQ.A [(0,0)] (by exact ⟨rfl,rfl⟩))
theorem rtag_ac (st:Int×List UInt8) (hst:st.2.length≤100000000):AC Tryz.prog 117 [.bp 0 0 0] [rB st] (fun v bs'=>v=tg (tagR st).1∧bs'=[rB (tagR st).2]):=by
  have h:=take6_ac 154 tagG 32 st hst (fun b hb _=>rtag1_ac b hb)
  refine AC.N Tryz.func117 Tryz.ntmps117 ?_
  intro X hρ hmks
  simp only [nx,Nat.reduceAdd,Nat.reduceSub,BEq.rfl]
  repeat' (first|((first|((with_reducible apply AP.k_any);first|refine AP.S ?_|refine AP.A ?_|refine AP.AB 0 ?_|refine AP.AB 1 ?_|refine AP.AL ?_))<;>(try simp only [nx,Nat.reduceAdd,Nat.reduceSub,BEq.rfl]))|((with_reducible apply AP.k_nil);first|(refine AP.nil (hQ' _ ?_);clear hQ' Q')|refine AP.nil ?_)|((with_reducible apply CP.k_reg);refine cp_regG fun Q' hQ'=>?_)|refine CP.W ?_|refine cp_cond rfl (fun hc=>?_) (fun hc=>?_)|(simp only [List.append_eq,List.cons_append,List.nil_append]))
  (exact RetQ.A [(0,0)] (by exact ⟨rfl,rfl⟩))
end Go.Proofs.YtmgneincjfhaoaaGreat

namespace Go.Proofs.YtmgneincjfhaoaaGreat
set_option linter.unusedVariables false
set_option linter.unusedSimpArgs false
set_option maxHeartbeats 8000000
open Go.RowKit
set_option maxRecDepth 100000
def pk0:Pkt:=⟨0,0,0,0,0,[],z32⟩
abbrev Rw:=Int×List UInt8
def r1 (st:Rw):Rw:=(intR st).2
def r2 (st:Rw):Rw:=(intR (r1 st)).2
def r3 (st:Rw):Rw:=(intR (r2 st)).2
def r4 (st:Rw):Rw:=(intR (r3 st)).2
def r5 (st:Rw):Rw:=(intR (r4 st)).2
def r6 (st:Rw):Rw:=(bytesR (r5 st)).2
def r7 (st:Rw):Rw:=(tagR (r6 st)).2
def packR (st:Rw):Pkt:=⟨(intR st).1,(intR (r1 st)).1,(intR (r2 st)).1,(intR (r3 st)).1,(intR (r4 st)).1,(bytesR (r5 st)).1,(tagR (r6 st)).1⟩
def parseP (b:List UInt8):Pkt×Int:=if endR (r7 (newR b))=0∧mayP (packR (newR b))=true then (packR (newR b),0) else (pk0,190)
theorem newR_le' {b:List UInt8} {k:Nat} (h:b.length≤k):(newR b).2.length≤k:=by
  unfold newR
  split
  · simp
  · exact h
theorem int_le {st:Rw} {k:Nat} (h:st.2.length≤k):(intR st).2.2.length≤k:=takeS_len h
theorem bytes_le {st:Rw} {k:Nat} (h:st.2.length≤k):(bytesR st).2.2.length≤k:=takeS_len (takeS_len h)
theorem parseQ_ac (b:List UInt8) (s0 s1 s2 s3 s4 s5 s6 s7:Rw) (a1 a2 a3 a4 a5:Int) (a6 a7:List UInt8) (ee:Int) (mm:Bool) (R:Pkt×Int)
    (h0:AC Tryz.prog 80 [bs none b] [] (fun v bs'=>v=.bp 0 0 0∧bs'=[rB s0]))
    (i1:AC Tryz.prog 115 [.bp 0 0 0] [rB s0] (fun v bs'=>v=I a1∧bs'=[rB s1]))
    (i2:AC Tryz.prog 115 [.bp 0 0 0] [rB s1] (fun v bs'=>v=I a2∧bs'=[rB s2]))
    (i3:AC Tryz.prog 115 [.bp 0 0 0] [rB s2] (fun v bs'=>v=I a3∧bs'=[rB s3]))
    (i4:AC Tryz.prog 115 [.bp 0 0 0] [rB s3] (fun v bs'=>v=I a4∧bs'=[rB s4]))
    (i5:AC Tryz.prog 115 [.bp 0 0 0] [rB s4] (fun v bs'=>v=I a5∧bs'=[rB s5]))
    (i6:AC Tryz.prog 116 [.bp 0 0 0] [rB s5] (fun v bs'=>v=bs none a6∧bs'=[rB s6]))
    (i7:AC Tryz.prog 117 [.bp 0 0 0] [rB s6] (fun v bs'=>v=tg a7∧bs'=[rB s7]))
    (i8:AC Tryz.prog 83 [.bp 0 0 0] [rB s7] (fun v bs'=>v=I ee∧bs'=[rB s7]))
    (i9:AC Tryz.prog 118 [.ag (eP ⟨a1,a2,a3,a4,a5,a6,a7⟩)] [] (fun v bs'=>v=B mm∧bs'=[]))
    (hR:R=if ee=0∧mm=true then (⟨a1,a2,a3,a4,a5,a6,a7⟩,0) else (pk0,190)) :
    AC Tryz.prog 76 [bs none b] [] (fun v bs'=>v=.tu [.ag (eP R.1),I R.2]∧bs'=[]):=by
  by_cases hg:ee=0∧mm=true
  · rw [if_pos hg] at hR
    subst hR
    obtain ⟨rfl,rfl⟩:=hg
    refine AC.N Tryz.func76 Tryz.ntmps76 ?_
    intro X hρ hmks
    simp only [nx,Nat.reduceAdd,Nat.reduceSub,BEq.rfl]
    refine CP.gh gh_slot ?_;simp only [nx,Nat.reduceAdd,Nat.reduceSub,BEq.rfl]
    refine CP.gh gh_slot ?_;simp only [nx,Nat.reduceAdd,Nat.reduceSub,BEq.rfl]
    refine CP.gh gh_slot ?_;simp only [nx,Nat.reduceAdd,Nat.reduceSub,BEq.rfl]
    refine CP.gh gh_slot ?_;simp only [nx,Nat.reduceAdd,Nat.reduceSub,BEq.rfl]
    repeat' (first|((first|((with_reducible apply AP.k_any);first|refine AP.S ?_|(refine AP.Y ?_;dsimp only)|refine AP.G (fun hg=>?_) (fun hg=>?_)|refine AP.A ?_|refine AP.AB 0 ?_|refine AP.AB 1 ?_|refine AP.AL ?_|((with_reducible apply AP.k_any);refine AP.B 0 (i1) ?_)|((with_reducible apply AP.k_any);refine AP.B 0 (i2) ?_)|((with_reducible apply AP.k_any);refine AP.B 0 (i3) ?_)|((with_reducible apply AP.k_any);refine AP.B 0 (i4) ?_)))<;>(try simp only [nx,Nat.reduceAdd,Nat.reduceSub,BEq.rfl]))|((with_reducible apply AP.k_nil);first|(refine AP.nil (hQ' _ ?_);clear hQ' Q')|refine AP.nil ?_)|((with_reducible apply CP.k_reg);refine cp_regG fun Q' hQ'=>?_)|refine CP.W ?_|refine cp_cond rfl (fun hc=>?_) (fun hc=>?_)|(simp only [List.append_eq,List.cons_append,List.nil_append]))
    all_goals first
      | (exact RetQ.A [] (by exact ⟨rfl,rfl⟩))
      | (exfalso;(repeat (rename AC _ _ _ _ _=>hzz;clear hzz));simp at *;done)
  · rw [if_neg hg] at hR
    subst hR
    refine AC.N Tryz.func76 Tryz.ntmps76 ?_
    intro X hρ hmks
    simp only [nx,Nat.reduceAdd,Nat.reduceSub,BEq.rfl]
    refine CP.gh gh_slot ?_;simp only [nx,Nat.reduceAdd,Nat.reduceSub,BEq.rfl]
    refine CP.gh gh_slot ?_;simp only [nx,Nat.reduceAdd,Nat.reduceSub,BEq.rfl]
    refine CP.gh gh_slot ?_;simp only [nx,Nat.reduceAdd,Nat.reduceSub,BEq.rfl]
    refine CP.gh gh_slot ?_;simp only [nx,Nat.reduceAdd,Nat.reduceSub,BEq.rfl]
    repeat' (first|((first|((with_reducible apply AP.k_any);first|refine AP.S ?_|(refine AP.Y ?_;dsimp only)|refine AP.G (fun hg=>?_) (fun hg=>?_)|refine AP.A ?_|refine AP.AB 0 ?_|refine AP.AB 1 ?_|refine AP.AL ?_|((with_reducible apply AP.k_any);refine AP.B 0 (i1) ?_)|((with_reducible apply AP.k_any);refine AP.B 0 (i2) ?_)|((with_reducible apply AP.k_any);refine AP.B 0 (i3) ?_)|((with_reducible apply AP.k_any);refine AP.B 0 (i4) ?_)))<;>(try simp only [nx,Nat.reduceAdd,Nat.reduceSub,BEq.rfl]))|((with_reducible apply AP.k_nil);first|(refine AP.nil (hQ' _ ?_);clear hQ' Q')|refine AP.nil ?_)|((with_reducible apply CP.k_reg);refine cp_regG fun Q' hQ'=>?_)|refine CP.W ?_|refine cp_cond rfl (fun hc=>?_) (fun hc=>?_)|(simp only [List.append_eq,List.cons_append,List.nil_append]))
    all_goals first
      | (exact RetQ.A [] (by exact ⟨rfl,rfl⟩))
      | (exfalso;(repeat (rename AC _ _ _ _ _=>hzz;clear hzz));simp at *;simp_all;done)
theorem parseP_ac (b:List UInt8) (hb:b.length≤100000000):AC Tryz.prog 76 [bs none b] [] (fun v bs'=>v=.tu [.ag (eP (parseP b).1),I (parseP b).2]∧bs'=[]):=by
  have l0:=newR_le' hb
  have l1:(r1 (newR b)).2.length≤100000000:=int_le l0
  have l2:(r2 (newR b)).2.length≤100000000:=int_le l1
  have l3:(r3 (newR b)).2.length≤100000000:=int_le l2
  have l4:(r4 (newR b)).2.length≤100000000:=int_le l3
  have l5:(r5 (newR b)).2.length≤100000000:=int_le l4
  have l6:(r6 (newR b)).2.length≤100000000:=bytes_le l5
  exact parseQ_ac b _ _ _ _ _ _ _ _ _ _ _ _ _ _ _ _ _ _ (rnew_ac b hb) (rint_ac _ l0) (rint_ac _ l1) (rint_ac _ l2) (rint_ac _ l3) (rint_ac _ l4) (rbytes_ac _ l5) (rtag_ac _ l6) (rend_ac _) (mayP_ac _) rfl
end Go.Proofs.YtmgneincjfhaoaaGreat

namespace Go.Proofs.YtmgneincjfhaoaaGreat
set_option linter.unusedVariables false
set_option linter.unusedSimpArgs false
open Go.RowKit
set_option maxRecDepth 100000
theorem parseP_body (b:List UInt8) {k:Nat} (h:b.length≤k):(parseP b).1.body.length≤k:=by
  unfold parseP
  split
  · show (takeS ([]:List UInt8) bytesG _ _).1.length≤k
    have h5:(r5 (newR b)).2.length≤k:=int_le (int_le (int_le (int_le (int_le (newR_le' h)))))
    have h6:(lenR (r5 (newR b))).2.2.length≤k:=takeS_len h5
    unfold takeS
    split
    · simp
    · split
      · simp
      · simp only [bytesG,if_true,List.length_take];omega
  · simp [pk0]
theorem takeS_P {α:Type} (p:α→Prop) {z:α} {f:List UInt8→α×Bool} {n:Int} {st:Int×List UInt8} (hz:p z) (hf:∀ b,b.length=n.toNat→p (f b).1):p (takeS z f n st).1:=by
  unfold takeS
  split
  · exact hz
  · split
    · exact hz
    · rename_i h1 h2
      split
      · exact hf _ (by rw [List.length_take];omega)
      · exact hz
theorem toI_le (n:Nat):toI n≤9223372036854775807:=by
  unfold toI
  simp only [IntKind.wrap,IntKind.bits,IntKind.signed]
  simp
  split<;>omega
theorem intR_le (st:Rw):(intR st).1≤9223372036854775807:=takeS_P (fun n:Int=>n≤9223372036854775807) (by decide) fun b _=>toI_le _
theorem tagR_len (st:Rw):(tagR st).1.length=32:=takeS_P (fun l:List UInt8=>l.length=32) (by simp) fun b h=>by simpa [tagG] using h
theorem parseP_tag (b:List UInt8):(parseP b).1.tag.length=32:=by
  unfold parseP
  split
  · exact tagR_len _
  · simp [pk0]
theorem parseP_seqn (b:List UInt8):(parseP b).1.seqn≤9223372036854775807:=by
  unfold parseP
  split
  · exact intR_le _
  · simp [pk0]
end Go.Proofs.YtmgneincjfhaoaaGreat

namespace Go.Proofs.YtmgneincjfhaoaaGreat
set_option linter.unusedVariables false
set_option linter.unusedSimpArgs false
set_option maxHeartbeats 8000000
open Go.RowKit
set_option maxRecDepth 100000
def Ends.get (x:Ends) (b:List UInt8):(Pkt×Int)×Ends:=
  if (parseP b).2≠0∨(parseP b).1.to≠x.who then ((pk0,190),x)
  else if (parseP b).1.tag≠tagS x.root (parseP b).1 then ((pk0,91),x)
  else
    let p:=(parseP b).1
    let t:=(got (p.frm,p.epoch) x.wins Wn.new).take p.boot p.seqn
    let x':Ends:={ x with wins:=puts (p.frm,p.epoch) x.wins t.2 }
    if t.1≠0 then ((pk0,t.1),x') else ((p,0),x')
theorem pk0_eP:eP pk0=eP ⟨0,0,0,0,0,[],List.replicate 32 0⟩:=rfl
theorem parse_two (b:List UInt8):parseP b=(pk0,190)∨((parseP b).2=0∧mayP (parseP b).1=true):=by
  unfold parseP
  split
  · rename_i h;exact .inr ⟨rfl,h.2⟩
  · exact .inl rfl
theorem get_bad (x:Ends) (b:List UInt8) (hb:b.length≤100000000) (h:parseP b=(pk0,190)):AC Tryz.prog 45 [.bp 0 0 0,bs none b] [xE x] (fun v bs'=>v=.tu [.ag (eP (x.get b).1.1),I (x.get b).1.2]∧bs'=[xE (x.get b).2]):=by
  have e:x.get b=((pk0,190),x):=by
    unfold Ends.get
    rw [h,if_pos (.inl (by decide))]
  rw [e]
  have h1:=lnone_ac x
  have h2:=parseP_ac b hb
  rw [h] at h2
  dsimp only at h2 ⊢
  rw [pk0_eP,eP_z] at h2 ⊢
  refine AC.N Tryz.func45 Tryz.ntmps45 ?_
  intro X hρ hmks
  simp only [nx,Nat.reduceAdd,Nat.reduceSub,BEq.rfl]
  repeat' (first|((first|((with_reducible apply AP.k_any);first|refine AP.ST ?_|(refine AP.Y ?_;dsimp only)|refine AP.G (fun hg=>?_) (fun hg=>?_)|(refine AP.V (fun c hnil=>?_);simp only [nz])|refine AP.PF ?_)|((with_reducible apply DW.k_any);first|refine DW.ST ?_|((fail_if_success refine DW.known rfl ?_);refine DW.G (fun hg=>?_) (fun hg=>?_))))<;>(try simp only [nx,mx,rn,fq,Nat.mul_one,Bool.and_true,Bool.and_false,Nat.reduceBEq,Nat.reduceAdd,Nat.reduceSub,BEq.rfl]))|((with_reducible apply AP.k_nil);first|(refine AP.nil (hQ' _ ?_);clear hQ' Q')|refine AP.nil ?_)|((with_reducible apply CP.k_drw);refine cp_drwX fun Q' hQ'=>?_)|((with_reducible apply CP.k_drw1);refine cp_drawX ?_)|((with_reducible apply DW.k_nil);refine DW.nl ?_;first|(refine hQ' _ ?_;clear hQ' Q')|skip)|((with_reducible apply CP.k_reg);refine cp_regG fun Q' hQ'=>?_)|refine CP.W ?_|refine cp_cond rfl (fun hc=>?_) (fun hc=>?_)|(simp only [List.append_eq,List.cons_append,List.nil_append]))
  (exact RetQ.A [(0,0)] (by exact ⟨rfl,rfl⟩))
theorem get_far (x:Ends) (b:List UInt8) (hb:b.length≤100000000) (h:(parseP b).2=0) (h3:(parseP b).1.to≠x.who):AC Tryz.prog 45 [.bp 0 0 0,bs none b] [xE x] (fun v bs'=>v=.tu [.ag (eP (x.get b).1.1),I (x.get b).1.2]∧bs'=[xE (x.get b).2]):=by
  have e:x.get b=((pk0,190),x):=by
    unfold Ends.get
    rw [if_pos (.inr h3)]
  rw [e]
  have h1:=lnone_ac x
  have h2:=parseP_ac b hb
  rw [h] at h2
  generalize (parseP b).1=p at *
  dsimp only at h2 ⊢
  rw [pk0_eP,eP_z]
  have d1:(p.to != x.who)=true:=by simpa using h3
  refine AC.N Tryz.func45 Tryz.ntmps45 ?_
  intro X hρ hmks
  simp only [nx,Nat.reduceAdd,Nat.reduceSub,BEq.rfl]
  repeat' (first|((first|((with_reducible apply AP.k_any);first|refine AP.ST ?_|(refine AP.Y ?_;dsimp only)|refine AP.G (fun hg=>?_) (fun hg=>?_)|(refine AP.V (fun c hnil=>?_);simp only [nz])|refine AP.PF ?_)|((with_reducible apply DW.k_any);first|refine DW.ST ?_|((fail_if_success refine DW.known rfl ?_);refine DW.G (fun hg=>?_) (fun hg=>?_))))<;>(try simp only [d1,nx,mx,rn,fq,Nat.mul_one,Bool.and_true,Bool.and_false,Nat.reduceBEq,Nat.reduceAdd,Nat.reduceSub,BEq.rfl]))|((with_reducible apply AP.k_nil);first|(refine AP.nil (hQ' _ ?_);clear hQ' Q')|refine AP.nil ?_)|((with_reducible apply CP.k_drw);refine cp_drwX fun Q' hQ'=>?_)|((with_reducible apply CP.k_drw1);refine cp_drawX ?_)|((with_reducible apply DW.k_nil);refine DW.nl ?_;first|(refine hQ' _ ?_;clear hQ' Q')|skip)|((with_reducible apply CP.k_reg);refine cp_regG fun Q' hQ'=>?_)|refine CP.W ?_|refine cp_cond rfl (fun hc=>?_) (fun hc=>?_)|(simp only [List.append_eq,List.cons_append,List.nil_append]))
  (exact RetQ.A [(0,0)] (by exact ⟨rfl,rfl⟩))
theorem get_tag (x:Ends) (b:List UInt8) (hb:b.length≤60000) (hr:x.root.length≤10000) (h:(parseP b).2=0) (h3:(parseP b).1.to=x.who) (h4:(parseP b).1.tag≠tagS x.root (parseP b).1):AC Tryz.prog 45 [.bp 0 0 0,bs none b] [xE x] (fun v bs'=>v=.tu [.ag (eP (x.get b).1.1),I (x.get b).1.2]∧bs'=[xE (x.get b).2]):=by
  have e:x.get b=((pk0,91),x):=by
    unfold Ends.get
    rw [if_neg (by rw [h,h3];simp),if_pos h4]
  rw [e]
  have h1:=lnone_ac x
  have h2:=parseP_ac b (by omega)
  have hbl:=parseP_body b hb
  have htl:=parseP_tag b
  rw [h] at h2
  generalize (parseP b).1=p at *
  have h5:=right_ac x.root p hr hbl htl
  rw [decide_eq_false h4] at h5
  dsimp only at h2 ⊢
  rw [pk0_eP,eP_z]
  have d1:(p.to != x.who)=false:=by simpa using h3
  clear h4 e
  refine AC.N Tryz.func45 Tryz.ntmps45 ?_
  intro X hρ hmks
  simp only [nx,Nat.reduceAdd,Nat.reduceSub,BEq.rfl]
  repeat' (first|((first|((with_reducible apply AP.k_any);first|refine AP.ST ?_|(refine AP.Y ?_;dsimp only)|refine AP.G (fun hg=>?_) (fun hg=>?_)|(refine AP.V (fun c hnil=>?_);simp only [nz])|refine AP.PF ?_)|((with_reducible apply DW.k_any);first|refine DW.ST ?_|((fail_if_success refine DW.known rfl ?_);refine DW.G (fun hg=>?_) (fun hg=>?_))))<;>(try simp only [d1,nx,mx,rn,fq,Nat.mul_one,Bool.and_true,Bool.and_false,Nat.reduceBEq,Nat.reduceAdd,Nat.reduceSub,BEq.rfl]))|((with_reducible apply AP.k_nil);first|(refine AP.nil (hQ' _ ?_);clear hQ' Q')|refine AP.nil ?_)|((with_reducible apply CP.k_drw);refine cp_drwX fun Q' hQ'=>?_)|((with_reducible apply CP.k_drw1);refine cp_drawX ?_)|((with_reducible apply DW.k_nil);refine DW.nl ?_;first|(refine hQ' _ ?_;clear hQ' Q')|skip)|((with_reducible apply CP.k_reg);refine cp_regG fun Q' hQ'=>?_)|refine CP.W ?_|refine cp_cond rfl (fun hc=>?_) (fun hc=>?_)|(simp only [List.append_eq,List.cons_append,List.nil_append]))
  (exact RetQ.A [(0,0)] (by exact ⟨rfl,rfl⟩))
end Go.Proofs.YtmgneincjfhaoaaGreat

namespace Go.Proofs.YtmgneincjfhaoaaGreat
set_option linter.unusedVariables false
set_option linter.unusedSimpArgs false
set_option maxHeartbeats 8000000
open Go.RowKit
set_option maxRecDepth 100000
theorem mayP_of {p:Pkt} (h:mayP p=true):1≤p.epoch∧0≤p.boot∧1≤p.seqn:=by
  simp only [mayP,Bool.and_eq_true,decide_eq_true_eq] at h
  exact ⟨h.1.1.2,h.1.2,h.2⟩
theorem take_two (w:Wn) (boot n:Int) (h0:0≤boot) (h1:1≤n):w.take boot n=(0,w.after boot n)∨w.take boot n=(180,w):=by
  unfold Wn.take
  rw [if_neg (by omega)]
  split
  · exact .inl rfl
  · exact .inr rfl
theorem get_go (x:Ends) (b:List UInt8) (h:(parseP b).2=0) (h3:(parseP b).1.to=x.who) (h4:(parseP b).1.tag=tagS x.root (parseP b).1) :
    x.get b=(let p:=(parseP b).1
    let t:=(got (p.frm,p.epoch) x.wins Wn.new).take p.boot p.seqn
    let x':Ends:={ x with wins:=puts (p.frm,p.epoch) x.wins t.2 }
    if t.1≠0 then ((pk0,t.1),x') else ((p,0),x')):=by
  unfold Ends.get
  rw [if_neg (by rw [h,h3];simp),if_neg (by rw [←h4];simp)]
theorem get_new (x:Ends) (b:List UInt8) (hb:b.length≤60000) (hr:x.root.length≤10000) (h:(parseP b).2=0) (h3:(parseP b).1.to=x.who) (h4:(parseP b).1.tag=tagS x.root (parseP b).1) (hm:mayP (parseP b).1=true)
    (ha:at_ ((parseP b).1.frm,(parseP b).1.epoch) x.wins=none):AC Tryz.prog 45 [.bp 0 0 0,bs none b] [xE x] (fun v bs'=>v=.tu [.ag (eP (x.get b).1.1),I (x.get b).1.2]∧bs'=[xE (x.get b).2]):=by
  rw [get_go x b h h3 h4]
  have h1:=lnone_ac x
  have h2:=parseP_ac b (by omega)
  have hbl:=parseP_body b hb
  have htl:=parseP_tag b
  have hsq:=parseP_seqn b
  rw [h] at h2
  generalize (parseP b).1=p at *
  have h5:=right_ac x.root p hr hbl htl
  rw [decide_eq_true h4] at h5
  obtain ⟨he,hbo,hs⟩:=mayP_of hm
  have hg:got (p.frm,p.epoch) x.wins Wn.new=Wn.new:=by unfold got;rw [ha]
  have hp:∀ w1,puts (p.frm,p.epoch) x.wins w1=x.wins ++ [((p.frm,p.epoch),w1)]:=fun w1=>by unfold puts;rw [ha]
  dsimp only
  rw [hg]
  have h6:=wnew18_ac
  have h7:=take18_ac Wn.new p.boot p.seqn hsq (by unfold Wn.ok Wn.new;decide)
  have hk:=kinS x.wins
  have hk1:∀ k∈keyW x.wins ++ [.agg #[.int .i64 p.frm,.int .i64 p.epoch]],isKey Tryz.prog tSd [.i .i64,.i .i64] k=true:=kin _ fun k hk=>by
    rcases List.mem_append.1 hk with hk|hk
    · obtain ⟨p,_,rfl⟩:=List.mem_map.1 hk;exact ⟨_,rfl⟩
    · simp at hk;exact ⟨(p.frm,p.epoch),hk⟩
  have hf:=fnd_at_ (p.frm,p.epoch) x.wins
  have hf1:fnd (kS (p.frm,p.epoch)) (keyW x.wins ++ [.agg #[.int .i64 p.frm,.int .i64 p.epoch]])=some x.wins.length:=by
    rw [fnd_app (by rw [hf,ha])]
    have:=kEq_kS (p.frm,p.epoch) (p.frm,p.epoch)
    rw [decide_eq_true rfl] at this
    simp [fnd,this]
  rw [ha] at hf
  have e1:∀ w1,xE { x with wins:=puts (p.frm,p.epoch) x.wins w1 }=.c tEn [B true,bs none x.root,I x.who,I x.boot,.mo (keyN x.sent) (rowN x.sent),.mo (keyW x.wins ++ [.agg #[.int .i64 p.frm,.int .i64 p.epoch]]) ((rowW x.wins ++ [[AV.de]]).set x.wins.length [.ob tWn (wC w1)])]:=fun w1=>by
    have e2:(rowW x.wins ++ [[AV.de]]).set x.wins.length [.ob tWn (wC w1)]=rowW x.wins ++ [[.ob tWn (wC w1)]]:=by
      rw [List.set_append_right _ _ (by simp)];simp
    rw [e2,hp]
    simp only [xE,enE,keyW,rowW,List.map_append,List.map_cons,List.map_nil]
  have d1:(p.to != x.who)=false:=by simpa using h3
  clear h4 hp
  rcases take_two Wn.new p.boot p.seqn hbo hs with ht|ht
  · rw [ht] at h7 ⊢
    dsimp only at h7 ⊢
    generalize Wn.new.after p.boot p.seqn=w1 at *
    rw [if_neg (by decide)]
    dsimp only
    rw [e1]
    clear e1
    generalize Wn.new=w0 at *
    refine AC.N Tryz.func45 Tryz.ntmps45 ?_
    intro X hρ hmks
    simp only [nx,Nat.reduceAdd,Nat.reduceSub,BEq.rfl]
    refine CP.gh gh_slot ?_;simp only [nx,Nat.reduceAdd,Nat.reduceSub,BEq.rfl]
    refine CP.gh gh_slot ?_;simp only [nx,Nat.reduceAdd,Nat.reduceSub,BEq.rfl]
    refine CP.gh gh_slot ?_;simp only [nx,Nat.reduceAdd,Nat.reduceSub,BEq.rfl]
    refine CP.gh gh_slot ?_;simp only [nx,Nat.reduceAdd,Nat.reduceSub,BEq.rfl]
    refine CP.gh gh_slot ?_;simp only [nx,Nat.reduceAdd,Nat.reduceSub,BEq.rfl]
    repeat' (first|((first|((with_reducible apply AP.k_any);first|refine AP.ST ?_|(refine AP.Y ?_;dsimp only)|refine AP.G (fun hg=>?_) (fun hg=>?_)|(refine AP.V (fun c hnil=>?_);simp only [nz])|((with_reducible apply AP.k_any);refine AP.B 1 (h6) ?_)|((with_reducible apply AP.k_any);refine AP.B 0 (h7) ?_)|refine AP.PF ?_)|((with_reducible apply DW.k_any);first|refine DW.ST ?_|((fail_if_success refine DW.known rfl ?_);refine DW.G (fun hg=>?_) (fun hg=>?_)))|((with_reducible apply DW.k_any);first|refine DW.R ?_|refine DW.R' ?_|refine DW.W ?_|refine DW.W' ?_|(refine DW.known rfl ?_;(with_reducible first|apply DW.sx 2|apply DW.sxN 2);(iterate 2 (focus (simp only [ft,nm,Nat.reduceAdd,Nat.reduceBEq,List.getElem?_cons_zero,List.getElem?_cons_succ];exact rfl)));(focus (intro X V;simp only [ft,nm,Nat.reduceAdd,Nat.reduceBEq];(try (refine AP.Y ?_;dsimp only));(first|((with_reducible apply AP.k_any);refine AP.B 1 (h6) ?_)|((with_reducible apply AP.k_any);refine AP.B 0 (h7) ?_)|fail);(try simp only [nx,Nat.reduceAdd,Nat.reduceSub,BEq.rfl]);refine AP.nil ?_;(first|refine ⟨trivial,rfl,?_⟩|refine ⟨rfl,rfl,?_⟩);(repeat' (first|exact Mg.nil|apply Mg.keep rfl|apply Mg.take rfl));done));(focus (refine Exists.intro (fun _=>0) ?_;apply Exists.intro;(repeat' (first|exact Mg.nil|apply Mg.keep rfl|apply Mg.take rfl));done));(iterate 2 (focus (exact rfl))))|((fail_if_success refine DW.known rfl ?_);refine DW.G (fun hg=>?_) (fun hg=>?_))))<;>(try simp only [d1,nx,mx,rn,fq,Nat.mul_one,Bool.and_true,Bool.and_false,Nat.reduceBEq,Nat.reduceAdd,Nat.reduceSub,BEq.rfl]))|((with_reducible apply AP.k_nil);first|(refine AP.nil (hQ' _ ?_);clear hQ' Q')|refine AP.nil ?_)|((with_reducible apply CP.k_drw);refine cp_drwX fun Q' hQ'=>?_)|((with_reducible apply CP.k_drw1);refine cp_drawX ?_)|((with_reducible apply DW.k_nil);refine DW.nl ?_;first|(refine hQ' _ ?_;clear hQ' Q')|skip)|((with_reducible apply CP.k_reg);refine cp_regG fun Q' hQ'=>?_)|refine CP.W ?_|refine cp_cond rfl (fun hc=>?_) (fun hc=>?_)|(simp only [List.append_eq,List.cons_append,List.nil_append]))
    (exact RetQ.A [(0,0)] (by exact ⟨rfl,rfl⟩))
  · rw [ht] at h7 ⊢
    dsimp only at h7 ⊢
    rw [if_pos (by decide)]
    dsimp only
    rw [e1,pk0_eP,eP_z]
    clear e1
    generalize Wn.new=w0 at *
    refine AC.N Tryz.func45 Tryz.ntmps45 ?_
    intro X hρ hmks
    simp only [nx,Nat.reduceAdd,Nat.reduceSub,BEq.rfl]
    refine CP.gh gh_slot ?_;simp only [nx,Nat.reduceAdd,Nat.reduceSub,BEq.rfl]
    refine CP.gh gh_slot ?_;simp only [nx,Nat.reduceAdd,Nat.reduceSub,BEq.rfl]
    refine CP.gh gh_slot ?_;simp only [nx,Nat.reduceAdd,Nat.reduceSub,BEq.rfl]
    refine CP.gh gh_slot ?_;simp only [nx,Nat.reduceAdd,Nat.reduceSub,BEq.rfl]
    refine CP.gh gh_slot ?_;simp only [nx,Nat.reduceAdd,Nat.reduceSub,BEq.rfl]
    repeat' (first|((first|((with_reducible apply AP.k_any);first|refine AP.ST ?_|(refine AP.Y ?_;dsimp only)|refine AP.G (fun hg=>?_) (fun hg=>?_)|(refine AP.V (fun c hnil=>?_);simp only [nz])|((with_reducible apply AP.k_any);refine AP.B 1 (h6) ?_)|((with_reducible apply AP.k_any);refine AP.B 0 (h7) ?_)|refine AP.PF ?_)|((with_reducible apply DW.k_any);first|refine DW.ST ?_|((fail_if_success refine DW.known rfl ?_);refine DW.G (fun hg=>?_) (fun hg=>?_)))|((with_reducible apply DW.k_any);first|refine DW.R ?_|refine DW.R' ?_|refine DW.W ?_|refine DW.W' ?_|(refine DW.known rfl ?_;(with_reducible first|apply DW.sx 2|apply DW.sxN 2);(iterate 2 (focus (simp only [ft,nm,Nat.reduceAdd,Nat.reduceBEq,List.getElem?_cons_zero,List.getElem?_cons_succ];exact rfl)));(focus (intro X V;simp only [ft,nm,Nat.reduceAdd,Nat.reduceBEq];(try (refine AP.Y ?_;dsimp only));(first|((with_reducible apply AP.k_any);refine AP.B 1 (h6) ?_)|((with_reducible apply AP.k_any);refine AP.B 0 (h7) ?_)|fail);(try simp only [nx,Nat.reduceAdd,Nat.reduceSub,BEq.rfl]);refine AP.nil ?_;(first|refine ⟨trivial,rfl,?_⟩|refine ⟨rfl,rfl,?_⟩);(repeat' (first|exact Mg.nil|apply Mg.keep rfl|apply Mg.take rfl));done));(focus (refine Exists.intro (fun _=>0) ?_;apply Exists.intro;(repeat' (first|exact Mg.nil|apply Mg.keep rfl|apply Mg.take rfl));done));(iterate 2 (focus (exact rfl))))|((fail_if_success refine DW.known rfl ?_);refine DW.G (fun hg=>?_) (fun hg=>?_))))<;>(try simp only [d1,nx,mx,rn,fq,Nat.mul_one,Bool.and_true,Bool.and_false,Nat.reduceBEq,Nat.reduceAdd,Nat.reduceSub,BEq.rfl]))|((with_reducible apply AP.k_nil);first|(refine AP.nil (hQ' _ ?_);clear hQ' Q')|refine AP.nil ?_)|((with_reducible apply CP.k_drw);refine cp_drwX fun Q' hQ'=>?_)|((with_reducible apply CP.k_drw1);refine cp_drawX ?_)|((with_reducible apply DW.k_nil);refine DW.nl ?_;first|(refine hQ' _ ?_;clear hQ' Q')|skip)|((with_reducible apply CP.k_reg);refine cp_regG fun Q' hQ'=>?_)|refine CP.W ?_|refine cp_cond rfl (fun hc=>?_) (fun hc=>?_)|(simp only [List.append_eq,List.cons_append,List.nil_append]))
    (exact RetQ.A [(0,0)] (by exact ⟨rfl,rfl⟩))
end Go.Proofs.YtmgneincjfhaoaaGreat

namespace Go.Proofs.YtmgneincjfhaoaaGreat
set_option linter.unusedVariables false
set_option linter.unusedSimpArgs false
set_option maxHeartbeats 8000000
open Go.RowKit
set_option maxRecDepth 100000
theorem get_old (x:Ends) (b:List UInt8) (hb:b.length≤60000) (hr:x.root.length≤10000) (hwo:∀ q∈x.wins,q.2.ok) (h:(parseP b).2=0) (h3:(parseP b).1.to=x.who) (h4:(parseP b).1.tag=tagS x.root (parseP b).1) (hm:mayP (parseP b).1=true)
    {n:Nat} (ha:at_ ((parseP b).1.frm,(parseP b).1.epoch) x.wins=some n):AC Tryz.prog 45 [.bp 0 0 0,bs none b] [xE x] (fun v bs'=>v=.tu [.ag (eP (x.get b).1.1),I (x.get b).1.2]∧bs'=[xE (x.get b).2]):=by
  rw [get_go x b h h3 h4]
  have h1:=lnone_ac x
  have h2:=parseP_ac b (by omega)
  have hbl:=parseP_body b hb
  have htl:=parseP_tag b
  have hsq:=parseP_seqn b
  rw [h] at h2
  generalize (parseP b).1=p at *
  have h5:=right_ac x.root p hr hbl htl
  rw [decide_eq_true h4] at h5
  obtain ⟨he,hbo,hs⟩:=mayP_of hm
  obtain ⟨w,hv⟩:=at_some ha
  have hg:got (p.frm,p.epoch) x.wins Wn.new=w:=by unfold got;rw [ha];dsimp only;rw [hv]
  have hp:∀ w1,puts (p.frm,p.epoch) x.wins w1=x.wins.set n ((p.frm,p.epoch),w1):=fun w1=>by unfold puts;rw [ha]
  dsimp only
  rw [hg]
  have h7:=take18_ac w p.boot p.seqn hsq (hwo _ (List.mem_of_getElem? hv))
  have hk:=kinS x.wins
  have hf:=fnd_at_ (p.frm,p.epoch) x.wins
  rw [ha] at hf
  have e1:∀ w1,xE { x with wins:=puts (p.frm,p.epoch) x.wins w1 }=.c tEn [B true,bs none x.root,I x.who,I x.boot,.mo (keyN x.sent) (rowN x.sent),.mo (keyW x.wins) ((rowW x.wins).set n [.ob tWn (wC w1)])]:=fun w1=>by
    rw [hp]
    have e2:=puts_keys ha w1
    have e3:(x.wins.set n ((p.frm,p.epoch),w1)).map (fun p:Sd×Wn=>[AV.ob tWn (wC p.2)])=(rowW x.wins).set n [.ob tWn (wC w1)]:=by rw [List.map_set]
    dsimp only [xE,enE,keyW,rowW]
    rw [e2,e3]
  have hc:(rowW x.wins)[n]? = some [.ob tWn (wC w)]:=by rw [List.getElem?_map,hv];rfl
  have d1:(p.to != x.who)=false:=by simpa using h3
  clear h4 hp
  rcases take_two w p.boot p.seqn hbo hs with ht|ht
  · rw [ht] at h7 ⊢
    dsimp only at h7 ⊢
    generalize w.after p.boot p.seqn=w1 at *
    rw [if_neg (by decide)]
    dsimp only
    rw [e1]
    clear e1
    refine AC.N Tryz.func45 Tryz.ntmps45 ?_
    intro X hρ hmks
    simp only [nx,Nat.reduceAdd,Nat.reduceSub,BEq.rfl]
    refine CP.gh gh_slot ?_;simp only [nx,Nat.reduceAdd,Nat.reduceSub,BEq.rfl]
    refine CP.gh gh_slot ?_;simp only [nx,Nat.reduceAdd,Nat.reduceSub,BEq.rfl]
    refine CP.gh gh_slot ?_;simp only [nx,Nat.reduceAdd,Nat.reduceSub,BEq.rfl]
    refine CP.gh gh_slot ?_;simp only [nx,Nat.reduceAdd,Nat.reduceSub,BEq.rfl]
    repeat' (first|((first|((with_reducible apply AP.k_any);first|refine AP.ST ?_|(refine AP.Y ?_;dsimp only)|refine AP.G (fun hg=>?_) (fun hg=>?_)|(refine AP.V (fun c hnil=>?_);simp only [nz])|refine AP.PF ?_))<;>(try simp only [d1,nx,mx,rn,fq,Nat.mul_one,Bool.and_true,Bool.and_false,Nat.reduceBEq,Nat.reduceAdd,Nat.reduceSub,BEq.rfl]))|((with_reducible apply AP.k_nil);first|(refine AP.nil (hQ' _ ?_);clear hQ' Q')|refine AP.nil ?_)|((with_reducible apply CP.k_reg);refine cp_regG fun Q' hQ'=>?_)|refine CP.W ?_|refine cp_cond rfl (fun hc=>?_) (fun hc=>?_)|(simp only [List.append_eq,List.cons_append,List.nil_append]))
    first|refine cp_drwX fun Q' hQ'=>?_|refine cp_drawX ?_
    repeat' (first|((first|((with_reducible apply AP.k_any);first|refine AP.ST ?_|(refine AP.Y ?_;dsimp only)|refine AP.G (fun hg=>?_) (fun hg=>?_)|(refine AP.V (fun c hnil=>?_);simp only [nz])|refine AP.PF ?_)|((with_reducible apply DW.k_any);first|refine DW.ST ?_|((fail_if_success refine DW.known rfl ?_);refine DW.G (fun hg=>?_) (fun hg=>?_))))<;>(try simp only [d1,nx,mx,rn,fq,Nat.mul_one,Bool.and_true,Bool.and_false,Nat.reduceBEq,Nat.reduceAdd,Nat.reduceSub,BEq.rfl]))|((with_reducible apply AP.k_nil);first|(refine AP.nil (hQ' _ ?_);clear hQ' Q')|refine AP.nil ?_)|((with_reducible apply DW.k_nil);refine DW.nl ?_;first|(refine hQ' _ ?_;clear hQ' Q')|skip)|((with_reducible apply CP.k_reg);refine cp_regG fun Q' hQ'=>?_)|refine CP.W ?_|refine cp_cond rfl (fun hc=>?_) (fun hc=>?_)|(simp only [List.append_eq,List.cons_append,List.nil_append]))
    first|refine cp_drwX fun Q' hQ'=>?_|refine cp_drawX ?_
    repeat' (first|((first|((with_reducible apply AP.k_any);first|refine AP.ST ?_|(refine AP.Y ?_;dsimp only)|refine AP.G (fun hg=>?_) (fun hg=>?_)|(refine AP.V (fun c hnil=>?_);simp only [nz])|refine AP.PF ?_)|((with_reducible apply DW.k_any);first|refine DW.ST ?_|((fail_if_success refine DW.known rfl ?_);refine DW.G (fun hg=>?_) (fun hg=>?_))))<;>(try simp only [d1,nx,mx,rn,fq,Nat.mul_one,Bool.and_true,Bool.and_false,Nat.reduceBEq,Nat.reduceAdd,Nat.reduceSub,BEq.rfl]))|((with_reducible apply AP.k_nil);first|(refine AP.nil (hQ' _ ?_);clear hQ' Q')|refine AP.nil ?_)|((with_reducible apply DW.k_nil);refine DW.nl ?_;first|(refine hQ' _ ?_;clear hQ' Q')|skip)|((with_reducible apply CP.k_reg);refine cp_regG fun Q' hQ'=>?_)|refine CP.W ?_|refine cp_cond rfl (fun hc=>?_) (fun hc=>?_)|(simp only [List.append_eq,List.cons_append,List.nil_append]))
    refine CP.gh (gh_openM (j:=2) (n:=n) rfl hc rfl rfl) ?_
    simp only [nx,Nat.reduceAdd,Nat.reduceSub,BEq.rfl]
    repeat' (first|((first|((with_reducible apply AP.k_any);first|refine AP.ST ?_|(refine AP.Y ?_;dsimp only)|refine AP.G (fun hg=>?_) (fun hg=>?_)|(refine AP.V (fun c hnil=>?_);simp only [nz])|((with_reducible apply AP.k_any);refine AP.B 0 (h7) ?_)|refine AP.PF ?_)|((with_reducible apply DW.k_any);first|refine DW.ST ?_|((fail_if_success refine DW.known rfl ?_);refine DW.G (fun hg=>?_) (fun hg=>?_)))|((with_reducible apply DW.k_any);first|refine DW.R ?_|refine DW.R' ?_|refine DW.W ?_|refine DW.W' ?_|(refine DW.known rfl ?_;(with_reducible first|apply DW.sx 2|apply DW.sxN 2);(iterate 2 (focus (simp only [ft,nm,Nat.reduceAdd,Nat.reduceBEq,List.getElem?_cons_zero,List.getElem?_cons_succ];exact rfl)));(focus (intro X V;simp only [ft,nm,Nat.reduceAdd,Nat.reduceBEq];(try (refine AP.Y ?_;dsimp only));(first|((with_reducible apply AP.k_any);refine AP.B 0 (h7) ?_)|fail);(try simp only [nx,Nat.reduceAdd,Nat.reduceSub,BEq.rfl]);refine AP.nil ?_;(first|refine ⟨trivial,rfl,?_⟩|refine ⟨rfl,rfl,?_⟩);(repeat' (first|exact Mg.nil|apply Mg.keep rfl|apply Mg.take rfl));done));(focus (refine Exists.intro (fun _=>0) ?_;apply Exists.intro;(repeat' (first|exact Mg.nil|apply Mg.keep rfl|apply Mg.take rfl));done));(iterate 2 (focus (exact rfl))))|((fail_if_success refine DW.known rfl ?_);refine DW.G (fun hg=>?_) (fun hg=>?_))))<;>(try simp only [d1,nx,mx,rn,fq,Nat.mul_one,Bool.and_true,Bool.and_false,Nat.reduceBEq,Nat.reduceAdd,Nat.reduceSub,BEq.rfl]))|((with_reducible apply AP.k_nil);first|(refine AP.nil (hQ' _ ?_);clear hQ' Q')|refine AP.nil ?_)|((with_reducible apply CP.k_drw);refine cp_drwX fun Q' hQ'=>?_)|((with_reducible apply CP.k_drw1);refine cp_drawX ?_)|((with_reducible apply DW.k_nil);refine DW.nl ?_;first|(refine hQ' _ ?_;clear hQ' Q')|skip)|((with_reducible apply CP.k_reg);refine cp_regG fun Q' hQ'=>?_)|refine CP.W ?_|refine cp_cond rfl (fun hc=>?_) (fun hc=>?_)|(simp only [List.append_eq,List.cons_append,List.nil_append]))
    (exact RetQ.A [(0,0)] (by exact ⟨rfl,rfl⟩))
  · rw [ht] at h7 ⊢
    dsimp only at h7 ⊢
    rw [if_pos (by decide)]
    dsimp only
    rw [e1,pk0_eP,eP_z]
    clear e1
    refine AC.N Tryz.func45 Tryz.ntmps45 ?_
    intro X hρ hmks
    simp only [nx,Nat.reduceAdd,Nat.reduceSub,BEq.rfl]
    refine CP.gh gh_slot ?_;simp only [nx,Nat.reduceAdd,Nat.reduceSub,BEq.rfl]
    refine CP.gh gh_slot ?_;simp only [nx,Nat.reduceAdd,Nat.reduceSub,BEq.rfl]
    refine CP.gh gh_slot ?_;simp only [nx,Nat.reduceAdd,Nat.reduceSub,BEq.rfl]
    refine CP.gh gh_slot ?_;simp only [nx,Nat.reduceAdd,Nat.reduceSub,BEq.rfl]
    repeat' (first|((first|((with_reducible apply AP.k_any);first|refine AP.ST ?_|(refine AP.Y ?_;dsimp only)|refine AP.G (fun hg=>?_) (fun hg=>?_)|(refine AP.V (fun c hnil=>?_);simp only [nz])|refine AP.PF ?_))<;>(try simp only [d1,nx,mx,rn,fq,Nat.mul_one,Bool.and_true,Bool.and_false,Nat.reduceBEq,Nat.reduceAdd,Nat.reduceSub,BEq.rfl]))|((with_reducible apply AP.k_nil);first|(refine AP.nil (hQ' _ ?_);clear hQ' Q')|refine AP.nil ?_)|((with_reducible apply CP.k_reg);refine cp_regG fun Q' hQ'=>?_)|refine CP.W ?_|refine cp_cond rfl (fun hc=>?_) (fun hc=>?_)|(simp only [List.append_eq,List.cons_append,List.nil_append]))
    first|refine cp_drwX fun Q' hQ'=>?_|refine cp_drawX ?_
    repeat' (first|((first|((with_reducible apply AP.k_any);first|refine AP.ST ?_|(refine AP.Y ?_;dsimp only)|refine AP.G (fun hg=>?_) (fun hg=>?_)|(refine AP.V (fun c hnil=>?_);simp only [nz])|refine AP.PF ?_)|((with_reducible apply DW.k_any);first|refine DW.ST ?_|((fail_if_success refine DW.known rfl ?_);refine DW.G (fun hg=>?_) (fun hg=>?_))))<;>(try simp only [d1,nx,mx,rn,fq,Nat.mul_one,Bool.and_true,Bool.and_false,Nat.reduceBEq,Nat.reduceAdd,Nat.reduceSub,BEq.rfl]))|((with_reducible apply AP.k_nil);first|(refine AP.nil (hQ' _ ?_);clear hQ' Q')|refine AP.nil ?_)|((with_reducible apply DW.k_nil);refine DW.nl ?_;first|(refine hQ' _ ?_;clear hQ' Q')|skip)|((with_reducible apply CP.k_reg);refine cp_regG fun Q' hQ'=>?_)|refine CP.W ?_|refine cp_cond rfl (fun hc=>?_) (fun hc=>?_)|(simp only [List.append_eq,List.cons_append,List.nil_append]))
    first|refine cp_drwX fun Q' hQ'=>?_|refine cp_drawX ?_
    repeat' (first|((first|((with_reducible apply AP.k_any);first|refine AP.ST ?_|(refine AP.Y ?_;dsimp only)|refine AP.G (fun hg=>?_) (fun hg=>?_)|(refine AP.V (fun c hnil=>?_);simp only [nz])|refine AP.PF ?_)|((with_reducible apply DW.k_any);first|refine DW.ST ?_|((fail_if_success refine DW.known rfl ?_);refine DW.G (fun hg=>?_) (fun hg=>?_))))<;>(try simp only [d1,nx,mx,rn,fq,Nat.mul_one,Bool.and_true,Bool.and_false,Nat.reduceBEq,Nat.reduceAdd,Nat.reduceSub,BEq.rfl]))|((with_reducible apply AP.k_nil);first|(refine AP.nil (hQ' _ ?_);clear hQ' Q')|refine AP.nil ?_)|((with_reducible apply DW.k_nil);refine DW.nl ?_;first|(refine hQ' _ ?_;clear hQ' Q')|skip)|((with_reducible apply CP.k_reg);refine cp_regG fun Q' hQ'=>?_)|refine CP.W ?_|refine cp_cond rfl (fun hc=>?_) (fun hc=>?_)|(simp only [List.append_eq,List.cons_append,List.nil_append]))
    refine CP.gh (gh_openM (j:=2) (n:=n) rfl hc rfl rfl) ?_
    simp only [nx,Nat.reduceAdd,Nat.reduceSub,BEq.rfl]
    repeat' (first|((first|((with_reducible apply AP.k_any);first|refine AP.ST ?_|(refine AP.Y ?_;dsimp only)|refine AP.G (fun hg=>?_) (fun hg=>?_)|(refine AP.V (fun c hnil=>?_);simp only [nz])|((with_reducible apply AP.k_any);refine AP.B 0 (h7) ?_)|refine AP.PF ?_)|((with_reducible apply DW.k_any);first|refine DW.ST ?_|((fail_if_success refine DW.known rfl ?_);refine DW.G (fun hg=>?_) (fun hg=>?_)))|((with_reducible apply DW.k_any);first|refine DW.R ?_|refine DW.R' ?_|refine DW.W ?_|refine DW.W' ?_|(refine DW.known rfl ?_;(with_reducible first|apply DW.sx 2|apply DW.sxN 2);(iterate 2 (focus (simp only [ft,nm,Nat.reduceAdd,Nat.reduceBEq,List.getElem?_cons_zero,List.getElem?_cons_succ];exact rfl)));(focus (intro X V;simp only [ft,nm,Nat.reduceAdd,Nat.reduceBEq];(try (refine AP.Y ?_;dsimp only));(first|((with_reducible apply AP.k_any);refine AP.B 0 (h7) ?_)|fail);(try simp only [nx,Nat.reduceAdd,Nat.reduceSub,BEq.rfl]);refine AP.nil ?_;(first|refine ⟨trivial,rfl,?_⟩|refine ⟨rfl,rfl,?_⟩);(repeat' (first|exact Mg.nil|apply Mg.keep rfl|apply Mg.take rfl));done));(focus (refine Exists.intro (fun _=>0) ?_;apply Exists.intro;(repeat' (first|exact Mg.nil|apply Mg.keep rfl|apply Mg.take rfl));done));(iterate 2 (focus (exact rfl))))|((fail_if_success refine DW.known rfl ?_);refine DW.G (fun hg=>?_) (fun hg=>?_))))<;>(try simp only [d1,nx,mx,rn,fq,Nat.mul_one,Bool.and_true,Bool.and_false,Nat.reduceBEq,Nat.reduceAdd,Nat.reduceSub,BEq.rfl]))|((with_reducible apply AP.k_nil);first|(refine AP.nil (hQ' _ ?_);clear hQ' Q')|refine AP.nil ?_)|((with_reducible apply CP.k_drw);refine cp_drwX fun Q' hQ'=>?_)|((with_reducible apply CP.k_drw1);refine cp_drawX ?_)|((with_reducible apply DW.k_nil);refine DW.nl ?_;first|(refine hQ' _ ?_;clear hQ' Q')|skip)|((with_reducible apply CP.k_reg);refine cp_regG fun Q' hQ'=>?_)|refine CP.W ?_|refine cp_cond rfl (fun hc=>?_) (fun hc=>?_)|(simp only [List.append_eq,List.cons_append,List.nil_append]))
    (exact RetQ.A [(0,0)] (by exact ⟨rfl,rfl⟩))
theorem get_ac (x:Ends) (b:List UInt8) (hb:b.length≤60000) (hr:x.root.length≤10000) (hwo:∀ q∈x.wins,q.2.ok):AC Tryz.prog 45 [.bp 0 0 0,bs none b] [xE x] (fun v bs'=>v=.tu [.ag (eP (x.get b).1.1),I (x.get b).1.2]∧bs'=[xE (x.get b).2]):=by
  rcases parse_two b with h|⟨h,hm⟩
  · exact get_bad x b (by omega) h
  · by_cases h3:(parseP b).1.to=x.who
    · by_cases h4:(parseP b).1.tag=tagS x.root (parseP b).1
      · cases ha:at_ ((parseP b).1.frm,(parseP b).1.epoch) x.wins with
        | none=>exact get_new x b hb hr h h3 h4 hm ha
        | some n=>exact get_old x b hb hr hwo h h3 h4 hm ha
      · exact get_tag x b hb hr h h3 h4
    · exact get_far x b (by omega) h h3
end Go.Proofs.YtmgneincjfhaoaaGreat

namespace Go.Proofs.YtmgneincjfhaoaaGreat
set_option linter.unusedVariables false
set_option linter.unusedSimpArgs false
/-- the document's window -/
structure Dw where
  boot:Int
  came:List Int
def dtop (l:List Int):Int:=l.foldl (fun t n=>if t < n then n else t) 0
def Dw.new:Dw:=⟨-1,[]⟩
def Dw.base (w:Dw) (boot:Int):Dw:=if w.boot < boot then ⟨boot,[]⟩ else w
def Dw.take (w:Dw) (boot n:Int):Int×Dw:=
  if boot < 0∨n < 1 then (2,w) else if boot < w.boot then (180,w) else
  if n≤dtop (w.base boot).came - 64 then (180,w.base boot) else if n∈(w.base boot).came then (180,w.base boot) else (0,⟨(w.base boot).boot,(w.base boot).came ++ [n]⟩)
theorem dtop_snoc (l:List Int) (n:Int):dtop (l ++ [n])=if dtop l < n then n else dtop l:=by
  unfold dtop;rw [List.foldl_append];rfl
theorem snoc_ind {α:Type} {P:List α→Prop} (h0:P []) (h1:∀ l n,P l→P (l ++ [n])) (l:List α):P l:=by
  have:∀ r:List α,P r.reverse:=fun r=>by
    induction r with
    | nil=>exact h0
    | cons n r ih=>rw [List.reverse_cons];exact h1 _ _ ih
  have:=this l.reverse
  rwa [List.reverse_reverse] at this
theorem dtop_nn (l:List Int):0≤dtop l:=by
  refine snoc_ind (P:=fun l=>0≤dtop l) (Int.le_refl _) (fun l n ih=>?_) l
  rw [dtop_snoc];split<;>omega
theorem dtop_ge (l:List Int):∀ n∈l,n≤dtop l:=by
  refine snoc_ind (P:=fun l=>∀ n∈l,n≤dtop l) (fun n hn=>by cases hn) (fun l m ih n hn=>?_) l
  rw [dtop_snoc]
  rcases List.mem_append.1 hn with h|h
  · have:=ih n h;split<;>omega
  · obtain rfl:=List.mem_singleton.1 h;split<;>omega
/-- the two windows know the same -/
def RW (p:Wn) (d:Dw):Prop:=p.boot=d.boot∧p.top=dtop d.came∧(∀ n∈d.came,1≤n)∧∀ n,1≤n→p.top - 64 < n→n≤p.top→(p.came (res64 n)=true↔n∈d.came)
theorem RW.new:RW Wn.new Dw.new:=⟨rfl,rfl,fun n h=>(by cases h),fun n h1 _ h3=>by (have:n≤0:=h3);omega⟩
theorem RW.base {p:Wn} {d:Dw} (h:RW p d) (boot:Int):RW (p.base boot) (d.base boot):=by
  unfold Wn.base Dw.base
  rw [h.1]
  split
  · exact ⟨rfl,rfl,fun n h=>(by cases h),fun n h1 _ h3=>by (have:n≤0:=h3);omega⟩
  · exact h
theorem RW.old {p:Wn} {d:Dw} (h:RW p d) {n:Int} (h1:1≤n):p.old n=(decide (n≤dtop d.came - 64) || decide (n∈d.came)):=by
  obtain ⟨_,h2,h3,h4⟩:=h
  unfold Wn.old
  rw [←h2]
  by_cases ha:n≤p.top - 64
  · rw [decide_eq_true ha];rfl
  · rw [decide_eq_false ha,Bool.false_or,Bool.false_or]
    by_cases hb:n≤p.top
    · rw [decide_eq_true hb,Bool.true_and,Bool.eq_iff_iff,h4 n h1 (by omega) hb,decide_eq_true_eq]
    · rw [decide_eq_false hb,Bool.false_and]
      exact (decide_eq_false fun hn=>hb (by rw [h2];exact dtop_ge _ n hn)).symm
theorem ups_at (w:Wn) (r:Nat):∀ k:Nat,(w.ups k).came r=true↔(w.came r=true∧∀ j:Int,w.top < j→j≤w.top + k→res64 j≠r)
  | 0=>⟨fun h=>⟨h,fun j h1 h2=>by omega⟩,fun h=>h.1⟩
  | k + 1=>by
    have ih:=ups_at w r k
    show upd (w.ups k).came (res64 ((w.ups k).top + 1)) false r=true↔_
    rw [Wn.ups_top]
    unfold upd
    by_cases hr:r=res64 (w.top + k + 1)
    · rw [if_pos hr]
      refine ⟨fun h=>(by cases h),fun ⟨_,h⟩=>absurd hr.symm (h _ (by omega) (by omega))⟩
    · rw [if_neg hr,ih]
      refine ⟨fun ⟨h1,h2⟩=>⟨h1,fun j h3 h4=>?_⟩,fun ⟨h1,h2⟩=>⟨h1,fun j h3 h4=>h2 j h3 (by omega)⟩⟩
      by_cases hj:j=w.top + k + 1
      · subst hj;exact Ne.symm hr
      · exact h2 j h3 (by omega)
theorem RW.go {p:Wn} {d:Dw} (h:RW p d) {n:Int} (h1:1≤n) (ho:p.old n=false):RW (p.go n) ⟨d.boot,d.came ++ [n]⟩:=by
  have hold:=ho
  rw [h.old h1,Bool.or_eq_false_iff,decide_eq_false_iff_not,decide_eq_false_iff_not] at hold
  obtain ⟨hf,hm⟩:=hold
  obtain ⟨h2,h3,h4,h5⟩:=h
  have ht:=dtop_nn d.came
  rw [←h3] at hf ht
  have hcame:∀ x:Wn,(x.mark n).came=upd x.came (res64 n) true:=fun x=>rfl
  by_cases hfar:p.top≤n - 64
  · have e:p.go n=(⟨p.boot,n,fun _=>false⟩:Wn).mark n:=by
      unfold Wn.go Wn.far
      rw [if_pos hfar]
      dsimp only
      rw [show (n - n).toNat=0 by omega];rfl
    rw [e]
    refine ⟨h2,?_,?_,?_⟩
    · show n=_
      rw [dtop_snoc,←h3,if_pos (by omega)]
    · intro m hm
      rcases List.mem_append.1 hm with hx|hx
      · exact h4 m hx
      · obtain rfl:=List.mem_singleton.1 hx;exact h1
    · intro m hm1 hm2 hm3
      change n - 64 < m at hm2
      change m≤n at hm3
      rw [hcame]
      unfold upd
      by_cases hmn:m=n
      · subst hmn;rw [if_pos rfl];simp
      · have hr:res64 m≠res64 n:=by unfold res64;omega
        rw [if_neg hr]
        refine ⟨fun h=>(by cases h),fun hx=>?_⟩
        rcases List.mem_append.1 hx with hx|hx
        · have:=dtop_ge _ m hx;omega
        · exact absurd (List.mem_singleton.1 hx) hmn
  · have e:p.go n=(p.ups (n - p.top).toNat).mark n:=by
      unfold Wn.go Wn.far
      rw [if_neg hfar]
    rw [e]
    have htop:((p.ups (n - p.top).toNat).mark n).top=p.top + ((n - p.top).toNat:Int):=Wn.ups_top _ _
    refine ⟨?_,?_,?_,?_⟩
    · show (p.ups _).boot=_
      rw [Wn.ups_boot];exact h2
    · rw [htop,dtop_snoc,←h3];split<;>omega
    · intro m hm
      rcases List.mem_append.1 hm with hx|hx
      · exact h4 m hx
      · obtain rfl:=List.mem_singleton.1 hx;exact h1
    · intro m hm1 hm2 hm3
      rw [htop] at hm2 hm3
      rw [hcame]
      unfold upd
      by_cases hmn:m=n
      · subst hmn;rw [if_pos rfl];simp
      · have hr:res64 m≠res64 n:=by unfold res64;omega
        rw [if_neg hr,ups_at]
        have hmem:(m∈d.came ++ [n])↔m∈d.came:=by simp [hmn]
        rw [hmem]
        by_cases hmt:m≤p.top
        · rw [←h5 m hm1 (by omega) hmt]
          refine ⟨fun hx=>hx.1,fun hx=>⟨hx,fun j h6 h7=>?_⟩⟩
          unfold res64;omega
        · refine ⟨fun hx=>absurd rfl (hx.2 m (by omega) (by omega)),fun hx=>?_⟩
          have:=dtop_ge _ m hx;omega
theorem RW.take {p:Wn} {d:Dw} (h:RW p d) (boot n:Int):(p.take boot n).1=(d.take boot n).1∧RW (p.take boot n).2 (d.take boot n).2:=by
  unfold Wn.take Dw.take
  by_cases hb:boot < 0∨n < 1
  · rw [if_pos hb,if_pos hb];exact ⟨rfl,h⟩
  · rw [if_neg hb,if_neg hb]
    unfold Wn.taken
    rw [h.1]
    by_cases hlt:boot < d.boot
    · rw [if_pos hlt,decide_eq_true hlt]
      exact ⟨rfl,h⟩
    · have hB:=h.base boot
      rw [if_neg hlt,decide_eq_false hlt,Bool.not_false,Bool.true_and,hB.old (by omega)]
      have hsame:(d.base boot).came≠[]→RW p (d.base boot):=fun hne=>by
        unfold Dw.base at *
        split
        · rename_i hx;rw [if_pos hx] at hne;exact absurd rfl hne
        · exact h
      have hafter:(p.base boot).old n=false→p.after boot n=(p.base boot).go n:=fun ho=>by
        unfold Wn.after
        rw [if_neg (by rw [h.1];omega),if_neg (by rw [ho];simp)]
      have hold:=hB.old (show 1≤n by omega)
      by_cases h1:n≤dtop (d.base boot).came - 64
      · rw [decide_eq_true h1,if_pos h1]
        refine ⟨rfl,hsame fun he=>?_⟩
        rw [he] at h1
        have:n≤0 - 64:=h1
        omega
      · rw [decide_eq_false h1,if_neg h1]
        by_cases h2:n∈(d.base boot).came
        · rw [decide_eq_true h2,if_pos h2]
          exact ⟨rfl,hsame fun he=>by rw [he] at h2;cases h2⟩
        · rw [decide_eq_false h2,if_neg h2]
          rw [decide_eq_false h1,decide_eq_false h2] at hold
          rw [if_pos (show (!(false || false))=true from rfl),hafter hold]
          exact ⟨rfl,hB.go (by omega) hold⟩
theorem at_cons {α:Type} (s:Sd) (q:Sd×α) (l:List (Sd×α)):at_ s (q :: l)=if s=q.1 then some 0 else (at_ s l).map (· + 1):=rfl
theorem got_cons {α:Type} (s:Sd) (q:Sd×α) (l:List (Sd×α)) (d:α):got s (q :: l) d=if s=q.1 then q.2 else got s l d:=by
  unfold got
  rw [at_cons]
  by_cases h:s=q.1
  · rw [if_pos h,if_pos h];rfl
  · rw [if_neg h,if_neg h]
    cases at_ s l<;>rfl
theorem puts_cons {α:Type} (s:Sd) (q:Sd×α) (l:List (Sd×α)) (v:α):puts s (q :: l) v=if s=q.1 then (s,v) :: l else q :: puts s l v:=by
  unfold puts
  rw [at_cons]
  by_cases h:s=q.1
  · rw [if_pos h,if_pos h];rfl
  · rw [if_neg h,if_neg h]
    cases at_ s l<;>rfl
theorem got_puts {α:Type} (s t:Sd) (v d:α):∀ l:List (Sd×α),got t (puts s l v) d=if t=s then v else got t l d
  | []=>by
    show got t [(s,v)] d=_
    rw [got_cons]
  | q :: l=>by
    have ih:=got_puts s t v d l
    rw [puts_cons]
    by_cases h:s=q.1
    · rw [if_pos h,got_cons,got_cons]
      dsimp only
      by_cases ht:t=s
      · rw [if_pos ht,if_pos ht]
      · rw [if_neg ht,if_neg ht,if_neg (by rw [←h];exact ht)]
    · rw [if_neg h,got_cons,got_cons,ih]
      by_cases ht:t=q.1
      · rw [if_pos ht,if_pos ht,if_neg (by rw [ht];exact Ne.symm h)]
      · rw [if_neg ht,if_neg ht]
/-- the document's ends -/
structure De where
  root:List UInt8
  who:Int
  boot:Int
  l:List (Sd×(Int×Dw))
abbrev De.at (y:De) (s:Sd):Int×Dw:=got s y.l (0,Dw.new)
def De.put (y:De) (s:Sd) (v:Int×Dw):De:={ y with l:=puts s y.l v }
def De.pkt (y:De) (to epoch:Int) (body:List UInt8):Pkt:=⟨y.who,to,epoch,y.boot,(y.at (to,epoch)).1 + 1,body,List.replicate 32 0⟩
def De.send (y:De) (to epoch:Int) (body:List UInt8):(List UInt8×Int)×De:=
  if mayP (y.pkt to epoch body)=true then ((headS (y.pkt to epoch body) ++ tagS y.root (y.pkt to epoch body),0),y.put (to,epoch) ((y.at (to,epoch)).1 + 1,(y.at (to,epoch)).2)) else (([],2),y.put (to,epoch) (y.at (to,epoch)))
def De.get (y:De) (b:List UInt8):(Pkt×Int)×De:=
  if (parseP b).2≠0∨(parseP b).1.to≠y.who then ((pk0,190),y)
  else if (parseP b).1.tag≠tagS y.root (parseP b).1 then ((pk0,91),y)
  else
    let p:=(parseP b).1
    let t:=(y.at (p.frm,p.epoch)).2.take p.boot p.seqn
    let y':De:=y.put (p.frm,p.epoch) ((y.at (p.frm,p.epoch)).1,t.2)
    if t.1≠0 then ((pk0,t.1),y') else ((p,0),y')
/-- the two ends know the same -/
structure Alk (x:Ends) (y:De):Prop where
  root:x.root=y.root
  who:x.who=y.who
  boot:x.boot=y.boot
  sent:∀ s,got s x.sent 0=(y.at s).1
  wins:∀ s,RW (got s x.wins Wn.new) (y.at s).2
theorem Alk.send {x:Ends} {y:De} (h:Alk x y) (to epoch:Int) (body:List UInt8):(x.send to epoch body).1=(y.send to epoch body).1∧Alk (x.send to epoch body).2 (y.send to epoch body).2:=by
  have hp:x.pkt to epoch body=y.pkt to epoch body:=by
    unfold Ends.pkt De.pkt
    rw [h.who,h.boot,h.sent]
  unfold Ends.send De.send
  rw [hp,h.root]
  split
  · refine ⟨rfl,⟨h.root,h.who,h.boot,fun s=>?_,fun s=>?_⟩⟩
    · show got s (puts (to,epoch) x.sent _) 0=(got s (puts (to,epoch) y.l _) _).1
      rw [got_puts,got_puts,h.sent]
      by_cases hs:s=(to,epoch)
      · rw [if_pos hs,if_pos hs]
      · rw [if_neg hs,if_neg hs];exact h.sent s
    · show RW (got s x.wins Wn.new) (got s (puts (to,epoch) y.l _) _).2
      rw [got_puts]
      by_cases hs:s=(to,epoch)
      · rw [if_pos hs,hs];exact h.wins _
      · rw [if_neg hs];exact h.wins s
  · refine ⟨rfl,⟨h.root,h.who,h.boot,fun s=>?_,fun s=>?_⟩⟩
    · show got s x.sent 0=(got s (puts (to,epoch) y.l _) _).1
      rw [got_puts]
      by_cases hs:s=(to,epoch)
      · rw [if_pos hs,hs];exact h.sent _
      · rw [if_neg hs];exact h.sent s
    · show RW (got s x.wins Wn.new) (got s (puts (to,epoch) y.l _) _).2
      rw [got_puts]
      by_cases hs:s=(to,epoch)
      · rw [if_pos hs,hs];exact h.wins _
      · rw [if_neg hs];exact h.wins s
theorem Alk.get {x:Ends} {y:De} (h:Alk x y) (b:List UInt8):(x.get b).1=(y.get b).1∧Alk (x.get b).2 (y.get b).2:=by
  unfold Ends.get De.get
  rw [h.who,h.root]
  split
  · exact ⟨rfl,h⟩
  split
  · exact ⟨rfl,h⟩
  dsimp only
  generalize (parseP b).1=p
  obtain ⟨h1,h2⟩:=(h.wins (p.frm,p.epoch)).take p.boot p.seqn
  have hR:Alk { x with wins:=puts (p.frm,p.epoch) x.wins ((got (p.frm,p.epoch) x.wins Wn.new).take p.boot p.seqn).2 } (y.put (p.frm,p.epoch) ((y.at (p.frm,p.epoch)).1,((y.at (p.frm,p.epoch)).2.take p.boot p.seqn).2)):=by
    refine ⟨h.root,h.who,h.boot,fun s=>?_,fun s=>?_⟩
    · show got s x.sent 0=(got s (puts (p.frm,p.epoch) y.l _) _).1
      rw [got_puts]
      by_cases hs:s=(p.frm,p.epoch)
      · rw [if_pos hs,hs];exact h.sent _
      · rw [if_neg hs];exact h.sent s
    · show RW (got s (puts (p.frm,p.epoch) x.wins _) Wn.new) (got s (puts (p.frm,p.epoch) y.l _) _).2
      rw [got_puts,got_puts]
      by_cases hs:s=(p.frm,p.epoch)
      · rw [if_pos hs,if_pos hs];exact h2
      · rw [if_neg hs,if_neg hs];exact h.wins s
  rw [h1]
  split
  · exact ⟨rfl,by rw [←h.root,←h.who];exact hR⟩
  · exact ⟨rfl,by rw [←h.root,←h.who];exact hR⟩
theorem Alk.new (root:List UInt8) (who boot:Int):Alk ⟨root,who,boot,[],[]⟩ ⟨root,who,boot,[]⟩:=⟨rfl,rfl,rfl,fun _=>rfl,fun _=>RW.new⟩
end Go.Proofs.YtmgneincjfhaoaaGreat

namespace Go.Proofs.YtmgneincjfhaoaaGreat
set_option linter.unusedVariables false
set_option linter.unusedSimpArgs false
set_option maxHeartbeats 8000000
open Go.RowKit
set_option maxRecDepth 100000
def clientS (who id:Int):Bool:=decide (0≤who) && decide (who < 4) && decide (1≤id)
def mayE (e:Entry):Bool:=decide (1≤e.pos) && decide (0≤e.stamp) && clientS e.client e.id && decide (e.body.length≤1024)
def allG (p:Nat→Member→Bool):Nat→List Member→Bool
  | _,[]=>true
  | k,m :: l=>p k m && allG p (k + 1) l
theorem client_ac (who id:Int):AC Tryz.prog 162 [I who,I id] [] (fun v bs=>v=B (clientS who id)∧bs=[]):=by
  refine AC.N Tryz.func162 Tryz.ntmps162 ?_
  intro X hρ hmks
  simp only [nx,Nat.reduceAdd,Nat.reduceSub,BEq.rfl]
  repeat' (first|((first|((with_reducible apply AP.k_any);first|refine AP.S ?_|(refine AP.Y ?_;dsimp only)|refine AP.G (fun hg=>?_) (fun hg=>?_)))<;>(try simp only [nx,Nat.reduceAdd,Nat.reduceSub,BEq.rfl]))|((with_reducible apply AP.k_nil);first|(refine AP.nil (hQ' _ ?_);clear hQ' Q')|refine AP.nil ?_)|((with_reducible apply CP.k_reg);refine cp_regG fun Q' hQ'=>?_)|refine CP.W ?_|refine cp_cond rfl (fun hc=>?_) (fun hc=>?_)|(simp only [List.append_eq,List.cons_append,List.nil_append]))
  all_goals (refine RetQ.B [] ?_;(try dsimp only [resV,List.getD_cons_succ,List.getD_cons_zero]);((refine ⟨?_,rfl⟩;simp at *;simp [clientS];try omega)))
theorem mayEntry_ac (e:Entry):AC Tryz.prog 200 [.ag (eE none e)] [] (fun v bs=>v=B (mayE e)∧bs=[]):=by
  refine AC.N Tryz.func200 Tryz.ntmps200 ?_
  intro X hρ hmks
  simp only [nx,Nat.reduceAdd,Nat.reduceSub,BEq.rfl]
  repeat' (first|((first|((with_reducible apply AP.k_any);first|refine AP.S ?_|(refine AP.Y ?_;dsimp only)|refine AP.G (fun hg=>?_) (fun hg=>?_))|((with_reducible apply AP.k_any);refine AP.C (client_ac _ _) ?_)|((with_reducible apply AQ.k_any);refine AQ.CQ (client_ac _ _) ?_))<;>(try simp only [nx,Nat.reduceAdd,Nat.reduceSub,BEq.rfl]))|((with_reducible apply AP.k_nil);first|(refine AP.nil (hQ' _ ?_);clear hQ' Q')|refine AP.nil ?_)|((with_reducible apply CP.k_reg);refine cp_regG fun Q' hQ'=>?_)|refine CP.W ?_|refine cp_cond rfl (fun hc=>?_) (fun hc=>?_)|(simp only [List.append_eq,List.cons_append,List.nil_append]))
  all_goals (refine RetQ.B [] ?_;(try dsimp only [resV,List.getD_cons_succ,List.getD_cons_zero]);((refine ⟨?_,rfl⟩;simp at *;simp [mayE,*];try omega)))
theorem all1_ac (f:Nat) (c:Config) (p:Nat→Member→Bool) (l:List Member) (hl:l.length≤100000000) (hf:∀ (i:Nat) (h:i < l.length),AC Tryz.prog f [I i,.ag (eM l[i]),.bp 0 0 0] [.c 48 (eC none c)] (fun v bs=>v=B (p i l[i])∧bs=[.c 48 (eC none c)])) :
    AC Tryz.prog 207 [ms none l,.fn f [.bp 0 0 0]] [.c 48 (eC none c)] (fun v bs=>v=B (allG p 0 l)∧bs=[.c 48 (eC none c)]):=by
  refine AC.N Tryz.func207 Tryz.ntmps207 ?_
  intro X hρ hmks
  simp only [nx,Nat.reduceAdd,Nat.reduceSub,BEq.rfl]
  repeat' (first|((first|((with_reducible apply AP.k_any);first|refine AP.S ?_|refine AP.E ?_|refine AP.T ?_))<;>(try simp only [nx,Nat.reduceAdd,Nat.reduceSub,BEq.rfl]))|((with_reducible apply AP.k_nil);first|(refine AP.nil (hQ' _ ?_);clear hQ' Q')|refine AP.nil ?_)|((with_reducible apply CP.k_reg);refine cp_regG fun Q' hQ'=>?_)|refine CP.W ?_|refine cp_cond rfl (fun hc=>?_) (fun hc=>?_)|(simp only [List.append_eq,List.cons_append,List.nil_append]))
  refine CP.gh gh_slot ?_
  simp only [nx,Nat.reduceAdd,Nat.reduceSub,BEq.rfl]
  refine cp_loopS [4,5,6,9,10,11,12,13,14,15,16,17,18,19] (fun a:Nat×Nat=>l.length - a.1) (fun a=>a.1≤l.length∧allG p 0 l=allG p a.1 (l.drop a.1)) (fun a=>[(9,I a.1)]) (fun a=>[(1,⟨a.2,.x⟩)]) (0,0) ⟨Nat.zero_le _,rfl⟩ (by exact Gh.W) ?_
  rintro ⟨k,u⟩ ⟨hk,he⟩
  simp only [setT,deT,setB,List.set_cons_succ,List.set_cons_zero]
  dsimp only at hk he
  by_cases hlt:k < l.length
  · have hw:IntKind.i64.wrap ((k:Int) + 1)=((k + 1:Nat):Int):=wrap_i64 (by omega) (by omega)
    rw [List.drop_eq_getElem_cons hlt,allG] at he
    repeat' (first|((first|((with_reducible apply AP.k_any);first|refine AP.S ?_|refine AP.E ?_|refine AP.T ?_)|((with_reducible apply AP.k_any);refine ap_callB 0 [(0,0)] rfl rfl (fn:=f) rfl (hf k hlt) (by (repeat' (first|exact PasC.nil|apply PasC.nil|apply PasC.cons|apply PasV.leaf rfl|apply PasV.nl|apply PasV.bp rfl|apply PasV.vp rfl|apply PasV.hk rfl|apply PasV.pz|exact VsM.nil|apply VsM.cons rfl|apply PasV.lend rfl rfl rfl|apply PasV.lend rfl rfl (ro_B _)|apply PasV.lend rfl rfl (ro_M _)|apply PasV.lend rfl rfl (ro_E _ _)|apply PasV.lend rfl rfl (ro_I _)|apply PasV.lend rfl rfl (by (simp only [rn,List.map_cons,List.map_nil];first|done|rfl))|apply PasV.mv rfl|apply PasV.ag|apply PasV.fn|exact PasV.fs|apply PasV.any))) (by (repeat' (first|exact Out.nil|apply Out.cons rfl|apply Out.r rfl|apply Out.f rfl|exact ClsC.nil|apply ClsC.nl|apply ClsC.leaf rfl|apply ClsC.hd rfl|apply ClsC.ob rfl|apply ClsC.mo rfl|apply ClsC.mp rfl|apply ClsC.hp rfl|apply ClsC.fn|apply ClsC.fz rfl (ro_B _)|apply ClsC.fz rfl (ro_M _)|apply ClsC.fz rfl (ro_E _ _)|apply ClsC.fz rfl rfl))) rfl (by (repeat' (first|exact Bk.nil|apply Bk.cons rfl rfl rfl|apply Bk.r rfl))) (by (repeat' (first|exact RnV.leaf rfl|exact RnV.fs|exact RnC.nil|apply RnC.cons|apply RnV.ag|apply RnV.tu|apply RnV.fn|exact RnV.bp rfl))) rfl ?_))<;>(try simp only [nx,Nat.reduceAdd,Nat.reduceSub,BEq.rfl]))|((with_reducible apply AP.k_nil);first|(refine AP.nil (hQ' _ ?_);clear hQ' Q')|refine AP.nil ?_)|((with_reducible apply CP.k_reg);refine cp_regG fun Q' hQ'=>?_)|refine CP.W ?_|refine cp_cond rfl (fun hc=>?_) (fun hc=>?_)|(simp only [List.append_eq,List.cons_append,List.nil_append]))
    · (refine RetQ.B [(0,0)] ?_;(try dsimp only [resV,List.getD_cons_succ,List.getD_cons_zero]);((have h:p k l[k]=false:=by simpa using hc);exact ⟨by rw [he,h,Bool.false_and],rfl⟩))
    · simp only [hw]
      exact ⟨(k + 1,u + 1),by (dsimp only;omega),⟨by (dsimp only;omega),by (have h:p k l[k]=true:=by simpa using hc);rw [he,h,Bool.true_and]⟩,by exact Gh.W⟩
    · exfalso;simp at *;omega
  · rw [List.drop_of_length_le (by omega),allG] at he
    repeat' (first|((first|((with_reducible apply AP.k_any);first|refine AP.S ?_|refine AP.E ?_|refine AP.T ?_))<;>(try simp only [nx,Nat.reduceAdd,Nat.reduceSub,BEq.rfl]))|((with_reducible apply AP.k_nil);first|(refine AP.nil (hQ' _ ?_);clear hQ' Q')|refine AP.nil ?_)|((with_reducible apply CP.k_reg);refine cp_regG fun Q' hQ'=>?_)|refine CP.W ?_|refine cp_cond rfl (fun hc=>?_) (fun hc=>?_)|(simp only [List.append_eq,List.cons_append,List.nil_append]))
    all_goals first
      | (exfalso;simp at *;done)
      | (exfalso;simp at *;omega)
      | (refine RetQ.B [(0,0)] ?_;(try dsimp only [resV,List.getD_cons_succ,List.getD_cons_zero]);(exact ⟨by rw [he],rfl⟩))
theorem all2_ac (f:Nat) (m:Member) (p:Nat→Member→Bool) (l:List Member) (hl:l.length≤100000000) (hf:∀ (i:Nat) (h:i < l.length),AC Tryz.prog f [I i,.ag (eM l[i]),.bp 0 0 0] [.c tM (eM m)] (fun v bs=>v=B (p i l[i])∧bs=[.c tM (eM m)])) :
    AC Tryz.prog 207 [ms none l,.fn f [.bp 0 0 0]] [.c tM (eM m)] (fun v bs=>v=B (allG p 0 l)∧bs=[.c tM (eM m)]):=by
  refine AC.N Tryz.func207 Tryz.ntmps207 ?_
  intro X hρ hmks
  simp only [nx,Nat.reduceAdd,Nat.reduceSub,BEq.rfl]
  repeat' (first|((first|((with_reducible apply AP.k_any);first|refine AP.S ?_|refine AP.E ?_|refine AP.T ?_))<;>(try simp only [nx,Nat.reduceAdd,Nat.reduceSub,BEq.rfl]))|((with_reducible apply AP.k_nil);first|(refine AP.nil (hQ' _ ?_);clear hQ' Q')|refine AP.nil ?_)|((with_reducible apply CP.k_reg);refine cp_regG fun Q' hQ'=>?_)|refine CP.W ?_|refine cp_cond rfl (fun hc=>?_) (fun hc=>?_)|(simp only [List.append_eq,List.cons_append,List.nil_append]))
  refine CP.gh gh_slot ?_
  simp only [nx,Nat.reduceAdd,Nat.reduceSub,BEq.rfl]
  refine cp_loopS [4,5,6,9,10,11,12,13,14,15,16,17,18,19] (fun a:Nat×Nat=>l.length - a.1) (fun a=>a.1≤l.length∧allG p 0 l=allG p a.1 (l.drop a.1)) (fun a=>[(9,I a.1)]) (fun a=>[(1,⟨a.2,.x⟩)]) (0,0) ⟨Nat.zero_le _,rfl⟩ (by exact Gh.W) ?_
  rintro ⟨k,u⟩ ⟨hk,he⟩
  simp only [setT,deT,setB,List.set_cons_succ,List.set_cons_zero]
  dsimp only at hk he
  by_cases hlt:k < l.length
  · have hw:IntKind.i64.wrap ((k:Int) + 1)=((k + 1:Nat):Int):=wrap_i64 (by omega) (by omega)
    rw [List.drop_eq_getElem_cons hlt,allG] at he
    repeat' (first|((first|((with_reducible apply AP.k_any);first|refine AP.S ?_|refine AP.E ?_|refine AP.T ?_)|((with_reducible apply AP.k_any);refine ap_callB 0 [(0,0)] rfl rfl (fn:=f) rfl (hf k hlt) (by (repeat' (first|exact PasC.nil|apply PasC.nil|apply PasC.cons|apply PasV.leaf rfl|apply PasV.nl|apply PasV.bp rfl|apply PasV.vp rfl|apply PasV.hk rfl|apply PasV.pz|exact VsM.nil|apply VsM.cons rfl|apply PasV.lend rfl rfl rfl|apply PasV.lend rfl rfl (ro_B _)|apply PasV.lend rfl rfl (ro_M _)|apply PasV.lend rfl rfl (ro_E _ _)|apply PasV.lend rfl rfl (ro_I _)|apply PasV.lend rfl rfl (by (simp only [rn,List.map_cons,List.map_nil];first|done|rfl))|apply PasV.mv rfl|apply PasV.ag|apply PasV.fn|exact PasV.fs|apply PasV.any))) (by (repeat' (first|exact Out.nil|apply Out.cons rfl|apply Out.r rfl|apply Out.f rfl|exact ClsC.nil|apply ClsC.nl|apply ClsC.leaf rfl|apply ClsC.hd rfl|apply ClsC.ob rfl|apply ClsC.mo rfl|apply ClsC.mp rfl|apply ClsC.hp rfl|apply ClsC.fn|apply ClsC.fz rfl (ro_B _)|apply ClsC.fz rfl (ro_M _)|apply ClsC.fz rfl (ro_E _ _)|apply ClsC.fz rfl rfl))) rfl (by (repeat' (first|exact Bk.nil|apply Bk.cons rfl rfl rfl|apply Bk.r rfl))) (by (repeat' (first|exact RnV.leaf rfl|exact RnV.fs|exact RnC.nil|apply RnC.cons|apply RnV.ag|apply RnV.tu|apply RnV.fn|exact RnV.bp rfl))) rfl ?_))<;>(try simp only [nx,Nat.reduceAdd,Nat.reduceSub,BEq.rfl]))|((with_reducible apply AP.k_nil);first|(refine AP.nil (hQ' _ ?_);clear hQ' Q')|refine AP.nil ?_)|((with_reducible apply CP.k_reg);refine cp_regG fun Q' hQ'=>?_)|refine CP.W ?_|refine cp_cond rfl (fun hc=>?_) (fun hc=>?_)|(simp only [List.append_eq,List.cons_append,List.nil_append]))
    · (refine RetQ.B [(0,0)] ?_;(try dsimp only [resV,List.getD_cons_succ,List.getD_cons_zero]);((have h:p k l[k]=false:=by simpa using hc);exact ⟨by rw [he,h,Bool.false_and],rfl⟩))
    · simp only [hw]
      exact ⟨(k + 1,u + 1),by (dsimp only;omega),⟨by (dsimp only;omega),by (have h:p k l[k]=true:=by simpa using hc);rw [he,h,Bool.true_and]⟩,by exact Gh.W⟩
    · exfalso;simp at *;omega
  · rw [List.drop_of_length_le (by omega),allG] at he
    repeat' (first|((first|((with_reducible apply AP.k_any);first|refine AP.S ?_|refine AP.E ?_|refine AP.T ?_))<;>(try simp only [nx,Nat.reduceAdd,Nat.reduceSub,BEq.rfl]))|((with_reducible apply AP.k_nil);first|(refine AP.nil (hQ' _ ?_);clear hQ' Q')|refine AP.nil ?_)|((with_reducible apply CP.k_reg);refine cp_regG fun Q' hQ'=>?_)|refine CP.W ?_|refine cp_cond rfl (fun hc=>?_) (fun hc=>?_)|(simp only [List.append_eq,List.cons_append,List.nil_append]))
    all_goals first
      | (exfalso;simp at *;done)
      | (exfalso;simp at *;omega)
      | (refine RetQ.B [(0,0)] ?_;(try dsimp only [resV,List.getD_cons_succ,List.getD_cons_zero]);(exact ⟨by rw [he],rfl⟩))
end Go.Proofs.YtmgneincjfhaoaaGreat

namespace Go.Proofs.YtmgneincjfhaoaaGreat
set_option linter.unusedVariables false
set_option linter.unusedSimpArgs false
set_option maxHeartbeats 8000000
open Go.RowKit
set_option maxRecDepth 100000
def pNode (n:Int):Nat→Member→Bool:=fun _ x=>x.node != n
def pMem (c:Config):Nat→Member→Bool:=fun i m=>decide (0≤m.node) && decide (m.node < 5) && decide (1≤m.since) && decide (m.since≤c.epoch) && allG (pNode m.node) 0 (c.members.take i)
def mayCfg (c:Config):Bool:=decide (1≤c.epoch) && decide (c.members.length≤5) && allG (pMem c) 0 c.members
theorem mc2_ac (i:Nat) (x m:Member):AC Tryz.prog 209 [I i,.ag (eM x),.bp 0 0 0] [.c tM (eM m)] (fun v bs=>v=B (pNode m.node i x)∧bs=[.c tM (eM m)]):=by
  refine AC.N Tryz.func209 Tryz.ntmps209 ?_
  intro X hρ hmks
  simp only [nx,Nat.reduceAdd,Nat.reduceSub,BEq.rfl]
  repeat' (first|((first|((with_reducible apply AP.k_any);first|refine AP.S ?_))<;>(try simp only [nx,Nat.reduceAdd,Nat.reduceSub,BEq.rfl]))|((with_reducible apply AP.k_nil);first|(refine AP.nil (hQ' _ ?_);clear hQ' Q')|refine AP.nil ?_)|((with_reducible apply CP.k_reg);refine cp_regG fun Q' hQ'=>?_)|refine CP.W ?_|refine cp_cond rfl (fun hc=>?_) (fun hc=>?_)|(simp only [List.append_eq,List.cons_append,List.nil_append]))
  (refine RetQ.B [(0,0)] ?_;(try dsimp only [resV,List.getD_cons_succ,List.getD_cons_zero]);(exact ⟨rfl,rfl⟩))
theorem mc1_ac (c:Config) (i:Nat) (m:Member) (hi:i≤c.members.length) (hl:c.members.length≤100000000):AC Tryz.prog 208 [I i,.ag (eM m),.bp 0 0 0] [.c 48 (eC none c)] (fun v bs=>v=B (pMem c i m)∧bs=[.c 48 (eC none c)]):=by
  have h:=all2_ac 209 m (pNode m.node) (c.members.take i) (by simp;omega) (fun k hk=>mc2_ac k _ m)
  refine AC.N Tryz.func208 Tryz.ntmps208 ?_
  intro X hρ hmks
  simp only [nx,Nat.reduceAdd,Nat.reduceSub,BEq.rfl]
  repeat' (first|((first|((with_reducible apply AP.k_any);first|refine AP.S ?_|(refine AP.Y ?_;dsimp only)|refine AP.G (fun hg=>?_) (fun hg=>?_))|((with_reducible apply AP.k_any);refine AP.CB [(1,1)] 0 (h) ?_))<;>(try simp only [nx,Nat.reduceAdd,Nat.reduceSub,BEq.rfl]))|((with_reducible apply AP.k_nil);first|(refine AP.nil (hQ' _ ?_);clear hQ' Q')|refine AP.nil ?_)|((with_reducible apply CP.k_reg);refine cp_regG fun Q' hQ'=>?_)|refine CP.W ?_|refine cp_cond rfl (fun hc=>?_) (fun hc=>?_)|(simp only [List.append_eq,List.cons_append,List.nil_append]))
  all_goals (refine RetQ.B [(0,0)] ?_;(try dsimp only [resV,List.getD_cons_succ,List.getD_cons_zero]);((refine ⟨?_,rfl⟩;simp at *;simp [pMem,*];try omega)))
theorem mayConfig_ac (c:Config) (hl:c.members.length≤100000000):AC Tryz.prog 174 [.ag (eC none c)] [] (fun v bs=>v=B (mayCfg c)∧bs=[]):=by
  have h:=all1_ac 208 c (pMem c) c.members hl (fun k hk=>mc1_ac c k _ (by omega) hl)
  refine AC.N Tryz.func174 Tryz.ntmps174 ?_
  intro X hρ hmks
  simp only [nx,Nat.reduceAdd,Nat.reduceSub,BEq.rfl]
  repeat' (first|((first|((with_reducible apply AP.k_any);first|refine AP.S ?_|(refine AP.Y ?_;dsimp only)|refine AP.G (fun hg=>?_) (fun hg=>?_))|((with_reducible apply AP.k_any);refine AP.CB [(0,1)] 0 (h) ?_))<;>(try simp only [nx,Nat.reduceAdd,Nat.reduceSub,BEq.rfl]))|((with_reducible apply AP.k_nil);first|(refine AP.nil (hQ' _ ?_);clear hQ' Q')|refine AP.nil ?_)|((with_reducible apply CP.k_reg);refine cp_regG fun Q' hQ'=>?_)|refine CP.W ?_|refine cp_cond rfl (fun hc=>?_) (fun hc=>?_)|(simp only [List.append_eq,List.cons_append,List.nil_append]))
  all_goals (refine RetQ.B [] ?_;(try dsimp only [resV,List.getD_cons_succ,List.getD_cons_zero]);((refine ⟨?_,rfl⟩;simp at *;simp [mayCfg,*];try omega)))
def putR (st:Bool×List UInt8) (e:Entry):Bool×List UInt8:=addS (addS (addS (addS (addS st (intS e.stamp)) (intS e.client)) (intS e.id)) (putS e.body.length 4)) e.body
def putM (st:Bool×List UInt8) (m:Member):Bool×List UInt8:=addS (addS (addS st (intS m.node)) (intS m.since)) (flagS m.whole)
def putC (st:Bool×List UInt8) (c:Config):Bool×List UInt8:=c.members.foldl putM (addS (addS st (intS c.epoch)) (intS c.members.length))
theorem putRest_ac (st:Bool×List UInt8) (e:Entry) (hst:st.2.length≤65536) (hb:e.body.length≤100000000) :
    AC Tryz.prog 203 [.bp 0 0 0,.ag (eE none e)] [wB st] (fun v bs=>v=.bp 0 0 0∧bs=[wB (putR st e)]):=by
  have h1:=addS_len (st:=st) (b:=intS e.stamp) hst
  have h2:=addS_len (b:=intS e.client) h1
  have h3:=addS_len (b:=intS e.id) h2
  refine AC.N Tryz.func203 Tryz.ntmps203 ?_
  intro X hρ hmks
  simp only [nx,Nat.reduceAdd,Nat.reduceSub,BEq.rfl]
  repeat' (first|((first|((with_reducible apply AP.k_any);first|refine AP.S ?_))<;>(try simp only [nx,Nat.reduceAdd,Nat.reduceSub,BEq.rfl]))|((with_reducible apply AP.k_nil);first|(refine AP.nil (hQ' _ ?_);clear hQ' Q')|refine AP.nil ?_)|((with_reducible apply CP.k_reg);refine cp_regG fun Q' hQ'=>?_)|refine CP.W ?_|refine cp_cond rfl (fun hc=>?_) (fun hc=>?_)|(simp only [List.append_eq,List.cons_append,List.nil_append]))
  refine cp_drawI (fun zs zb=>⟨setT zs.t [(5,cond (zb.getD 0 false) (.bp 0 0 0) (.tu [])),(6,cond (zb.getD 1 false) (.bp 2 1 1) (.tu [])),(7,cond (zb.getD 2 false) (I e.stamp) (.tu [])),(8,cond (zb.getD 3 false) (.bp 0 0 0) (.tu [])),(9,cond (zb.getD 4 false) (.bp 2 1 2) (.tu [])),(10,cond (zb.getD 5 false) (I e.client) (.tu [])),(11,cond (zb.getD 6 false) (.bp 0 0 0) (.tu [])),(12,cond (zb.getD 7 false) (.bp 2 1 3) (.tu [])),(13,cond (zb.getD 8 false) (I e.id) (.tu [])),(14,cond (zb.getD 9 false) (.bp 0 0 0) (.tu [])),(15,cond (zb.getD 10 false) (.bp 2 1 4) (.tu [])),(16,cond (zb.getD 11 false) (bs none e.body) (.tu [])),(17,cond (zb.getD 12 false) (.bp 0 0 0) (.tu [])),(4,cond (zb.getD 13 false) (.bp 0 0 0) (.sc (.pointer none)))],((zs.b.set 0 (cond (zb.getD 12 false) (⟨0,.c tW [B true,B (putR st e).1,.hd 1 5]⟩) (cond (zb.getD 9 false) (⟨0,.c tW [B true,B (addS (addS (addS st (intS e.stamp)) (intS e.client)) (intS e.id)).1,.hd 1 4]⟩) (cond (zb.getD 6 false) (⟨0,.c tW [B true,B (addS (addS st (intS e.stamp)) (intS e.client)).1,.hd 1 3]⟩) (cond (zb.getD 3 false) (⟨0,.c tW [B true,B (addS st (intS e.stamp)).1,.hd 1 2]⟩) (zs.b.getD 0 ⟨0,.x⟩)))))).set 1 (cond (zb.getD 12 false) (⟨5,.r tU 1 ((putR st e).2.map eB)⟩) (cond (zb.getD 9 false) (⟨4,.r tU 1 ((addS (addS (addS st (intS e.stamp)) (intS e.client)) (intS e.id)).2.map eB)⟩) (cond (zb.getD 6 false) (⟨3,.r tU 1 ((addS (addS st (intS e.stamp)) (intS e.client)).2.map eB)⟩) (cond (zb.getD 3 false) (⟨2,.r tU 1 ((addS st (intS e.stamp)).2.map eB)⟩) (zs.b.getD 1 ⟨0,.x⟩))))))⟩) (by kernel_rfl) (by kernel_rfl) (by kernel_rfl) ?_ ?_
  rotate_left
  simp only [cond_true,cond_false,setT,List.set_cons_succ,List.set_cons_zero,List.getD_cons_succ,List.getD_cons_zero,List.set_cons_succ,List.length_cons,List.length_nil,List.replicate_succ,List.replicate_zero,Nat.reduceAdd]
  rotate_left
  · intro b hb' hcl
    obtain ⟨l0,b0,rfl,hb0⟩:=len_cons hb'
    obtain ⟨l1,b1,rfl,hb1⟩:=len_cons hb0
    obtain ⟨l2,b2,rfl,hb2⟩:=len_cons hb1
    obtain ⟨l3,b3,rfl,hb3⟩:=len_cons hb2
    obtain ⟨l4,b4,rfl,hb4⟩:=len_cons hb3
    obtain ⟨l5,b5,rfl,hb5⟩:=len_cons hb4
    obtain ⟨l6,b6,rfl,hb6⟩:=len_cons hb5
    obtain ⟨l7,b7,rfl,hb7⟩:=len_cons hb6
    obtain ⟨l8,b8,rfl,hb8⟩:=len_cons hb7
    obtain ⟨l9,b9,rfl,hb9⟩:=len_cons hb8
    obtain ⟨l10,b10,rfl,hb10⟩:=len_cons hb9
    obtain ⟨l11,b11,rfl,hb11⟩:=len_cons hb10
    obtain ⟨l12,b12,rfl,hb12⟩:=len_cons hb11
    obtain ⟨l13,b13,rfl,hb13⟩:=len_cons hb12
    obtain rfl:=List.length_eq_zero_iff.1 hb13
    clear hb' hb0 hb1 hb2 hb3 hb4 hb5 hb6 hb7 hb8 hb9 hb10 hb11 hb12 hb13
    · simp only [closedB,depsOk,Region.binds,List.toList_toArray,List.all_cons,List.all_nil,List.getD_cons_succ,List.getD_cons_zero,Bool.not_true,Bool.not_false,Bool.true_or,Bool.false_or,Bool.and_true,Bool.true_and,Bool.or_true,Bool.and_false,Bool.or_false,Bool.false_and,Bool.and_eq_true,Bool.or_eq_true,Bool.not_eq_true'] at hcl
      simp only [StepsP]
      refine ⟨?_,?_,?_,?_,?_,?_,?_,?_,?_,?_,?_,?_,?_,?_,trivial⟩
      · intro h1 h2
        simp [depsOk,Region.binds] at h1 h2
        subst h1
        (repeat (obtain ⟨rfl,h2⟩:=h2))
        (try subst h2)
        clear hcl
        all_goals simp only [cond_true,cond_false,setT,List.set_cons_succ,List.set_cons_zero,List.getD_cons_succ,List.getD_cons_zero,List.set_cons_succ]
        all_goals ((with_reducible apply AP.k_any);first|(refine AP.sm false rfl ?_ ?_;focus ((repeat' (with_reducible apply And.intro))<;>(first|exact True.intro|exact rfl|omega|decide|(simp;omega)|(simp;done)|assumption|exact .inl rfl|(refine .inr ?_;simp;try omega))))|fail "no step")
        all_goals (try simp only [nx,Nat.reduceAdd,Nat.reduceSub,BEq.rfl])
        all_goals refine AP.nil ?_
        all_goals exact ⟨rfl,rfl⟩
      · intro h1 h2
        simp [depsOk,Region.binds] at h1 h2
        subst h1
        (repeat (obtain ⟨rfl,h2⟩:=h2))
        (try subst h2)
        clear hcl
        all_goals simp only [cond_true,cond_false,setT,List.set_cons_succ,List.set_cons_zero,List.getD_cons_succ,List.getD_cons_zero,List.set_cons_succ]
        all_goals ((with_reducible apply AP.k_any);first|(refine AP.sm false rfl ?_ ?_;focus ((repeat' (with_reducible apply And.intro))<;>(first|exact True.intro|exact rfl|omega|decide|(simp;omega)|(simp;done)|assumption|exact .inl rfl|(refine .inr ?_;simp;try omega))))|fail "no step")
        all_goals (try simp only [nx,Nat.reduceAdd,Nat.reduceSub,BEq.rfl])
        all_goals refine AP.nil ?_
        all_goals exact ⟨rfl,rfl⟩
      · intro h1 h2
        simp [depsOk,Region.binds] at h1 h2
        subst h1
        (repeat (obtain ⟨rfl,h2⟩:=h2))
        (try subst h2)
        (first|(obtain rfl:l3=false:=by grind only)|skip)
        (first|(obtain rfl:l6=false:=by grind only)|skip)
        (first|(obtain rfl:l9=false:=by grind only)|skip)
        (first|(obtain rfl:l12=false:=by grind only)|skip)
        clear hcl
        all_goals simp only [cond_true,cond_false,setT,List.set_cons_succ,List.set_cons_zero,List.getD_cons_succ,List.getD_cons_zero,List.set_cons_succ]
        all_goals ((with_reducible apply AP.k_any);first|(refine AP.sm false rfl ?_ ?_;focus ((repeat' (with_reducible apply And.intro))<;>(first|exact True.intro|exact rfl|omega|decide|(simp;omega)|(simp;done)|assumption|exact .inl rfl|(refine .inr ?_;simp;try omega))))|(refine AP.el rfl ?_ (by (first|(refine ⟨?_,?_⟩;assumption;rfl)|exact ⟨mapAt (by (first|omega|(simp;omega)|(simp;done)|assumption)),rfl⟩|exact ⟨rfl,rfl⟩)) ?_;focus ((repeat' (with_reducible apply And.intro))<;>(first|exact True.intro|exact rfl|omega|decide|(simp;omega)|(simp;done)|assumption|exact .inl rfl|(refine .inr ?_;simp;try omega))))|fail "no step")
        all_goals (try simp only [nx,Nat.reduceAdd,Nat.reduceSub,BEq.rfl])
        all_goals refine AP.nil ?_
        all_goals exact ⟨rfl,rfl⟩
      · intro h1 h2
        simp [depsOk,Region.binds] at h1 h2
        subst h1
        (repeat (obtain ⟨rfl,h2⟩:=h2))
        (try subst h2)
        (first|(obtain rfl:l6=false:=by grind only)|skip)
        (first|(obtain rfl:l9=false:=by grind only)|skip)
        (first|(obtain rfl:l12=false:=by grind only)|skip)
        clear hcl
        all_goals simp only [cond_true,cond_false,setT,List.set_cons_succ,List.set_cons_zero,List.getD_cons_succ,List.getD_cons_zero,List.set_cons_succ]
        (first
        | ((with_reducible apply AP.k_any);refine AP.CB [(0,0)] 0 (wint_ac st e.stamp hst) ?_)
        | ((with_reducible apply AP.k_any);refine AP.CB [(0,0)] 0 (wint_ac _ e.client h1) ?_)
        | ((with_reducible apply AP.k_any);refine AP.CB [(0,0)] 0 (wint_ac _ e.id h2) ?_)
        | ((with_reducible apply AP.k_any);refine AP.CB [(0,0)] 0 (wbytes_ac _ e.body h3 hb) ?_)
        | fail "no arm")
        all_goals (try simp only [nx,Nat.reduceAdd,Nat.reduceSub,BEq.rfl])
        all_goals refine AP.nil ?_
        all_goals exact ⟨rfl,rfl⟩
      · intro h1 h2
        simp [depsOk,Region.binds] at h1 h2
        subst h1
        (repeat (obtain ⟨rfl,h2⟩:=h2))
        (try subst h2)
        clear hcl
        all_goals simp only [cond_true,cond_false,setT,List.set_cons_succ,List.set_cons_zero,List.getD_cons_succ,List.getD_cons_zero,List.set_cons_succ]
        all_goals ((with_reducible apply AP.k_any);first|(refine AP.sm false rfl ?_ ?_;focus ((repeat' (with_reducible apply And.intro))<;>(first|exact True.intro|exact rfl|omega|decide|(simp;omega)|(simp;done)|assumption|exact .inl rfl|(refine .inr ?_;simp;try omega))))|fail "no step")
        all_goals (try simp only [nx,Nat.reduceAdd,Nat.reduceSub,BEq.rfl])
        all_goals refine AP.nil ?_
        all_goals exact ⟨rfl,rfl⟩
      · intro h1 h2
        simp [depsOk,Region.binds] at h1 h2
        subst h1
        (repeat (obtain ⟨rfl,h2⟩:=h2))
        (try subst h2)
        (first|(obtain rfl:l6=false:=by grind only)|skip)
        (first|(obtain rfl:l9=false:=by grind only)|skip)
        (first|(obtain rfl:l12=false:=by grind only)|skip)
        clear hcl
        all_goals simp only [cond_true,cond_false,setT,List.set_cons_succ,List.set_cons_zero,List.getD_cons_succ,List.getD_cons_zero,List.set_cons_succ]
        all_goals ((with_reducible apply AP.k_any);first|(refine AP.sm false rfl ?_ ?_;focus ((repeat' (with_reducible apply And.intro))<;>(first|exact True.intro|exact rfl|omega|decide|(simp;omega)|(simp;done)|assumption|exact .inl rfl|(refine .inr ?_;simp;try omega))))|(refine AP.el rfl ?_ (by (first|(refine ⟨?_,?_⟩;assumption;rfl)|exact ⟨mapAt (by (first|omega|(simp;omega)|(simp;done)|assumption)),rfl⟩|exact ⟨rfl,rfl⟩)) ?_;focus ((repeat' (with_reducible apply And.intro))<;>(first|exact True.intro|exact rfl|omega|decide|(simp;omega)|(simp;done)|assumption|exact .inl rfl|(refine .inr ?_;simp;try omega))))|fail "no step")
        all_goals (try simp only [nx,Nat.reduceAdd,Nat.reduceSub,BEq.rfl])
        all_goals refine AP.nil ?_
        all_goals exact ⟨rfl,rfl⟩
      · intro h1 h2
        simp [depsOk,Region.binds] at h1 h2
        subst h1
        (repeat (obtain ⟨rfl,h2⟩:=h2))
        (try subst h2)
        (first|(obtain rfl:l3=true:=by grind only)|skip)
        (first|(obtain rfl:l9=false:=by grind only)|skip)
        (first|(obtain rfl:l12=false:=by grind only)|skip)
        clear hcl
        all_goals simp only [cond_true,cond_false,setT,List.set_cons_succ,List.set_cons_zero,List.getD_cons_succ,List.getD_cons_zero,List.set_cons_succ]
        (first
        | ((with_reducible apply AP.k_any);refine AP.CB [(0,0)] 0 (wint_ac st e.stamp hst) ?_)
        | ((with_reducible apply AP.k_any);refine AP.CB [(0,0)] 0 (wint_ac _ e.client h1) ?_)
        | ((with_reducible apply AP.k_any);refine AP.CB [(0,0)] 0 (wint_ac _ e.id h2) ?_)
        | ((with_reducible apply AP.k_any);refine AP.CB [(0,0)] 0 (wbytes_ac _ e.body h3 hb) ?_)
        | fail "no arm")
        all_goals (try simp only [nx,Nat.reduceAdd,Nat.reduceSub,BEq.rfl])
        all_goals refine AP.nil ?_
        all_goals exact ⟨rfl,rfl⟩
      · intro h1 h2
        simp [depsOk,Region.binds] at h1 h2
        subst h1
        (repeat (obtain ⟨rfl,h2⟩:=h2))
        (try subst h2)
        clear hcl
        all_goals simp only [cond_true,cond_false,setT,List.set_cons_succ,List.set_cons_zero,List.getD_cons_succ,List.getD_cons_zero,List.set_cons_succ]
        all_goals ((with_reducible apply AP.k_any);first|(refine AP.sm false rfl ?_ ?_;focus ((repeat' (with_reducible apply And.intro))<;>(first|exact True.intro|exact rfl|omega|decide|(simp;omega)|(simp;done)|assumption|exact .inl rfl|(refine .inr ?_;simp;try omega))))|fail "no step")
        all_goals (try simp only [nx,Nat.reduceAdd,Nat.reduceSub,BEq.rfl])
        all_goals refine AP.nil ?_
        all_goals exact ⟨rfl,rfl⟩
      · intro h1 h2
        simp [depsOk,Region.binds] at h1 h2
        subst h1
        (repeat (obtain ⟨rfl,h2⟩:=h2))
        (try subst h2)
        (first|(obtain rfl:l9=false:=by grind only)|skip)
        (first|(obtain rfl:l12=false:=by grind only)|skip)
        clear hcl
        all_goals simp only [cond_true,cond_false,setT,List.set_cons_succ,List.set_cons_zero,List.getD_cons_succ,List.getD_cons_zero,List.set_cons_succ]
        all_goals ((with_reducible apply AP.k_any);first|(refine AP.sm false rfl ?_ ?_;focus ((repeat' (with_reducible apply And.intro))<;>(first|exact True.intro|exact rfl|omega|decide|(simp;omega)|(simp;done)|assumption|exact .inl rfl|(refine .inr ?_;simp;try omega))))|(refine AP.el rfl ?_ (by (first|(refine ⟨?_,?_⟩;assumption;rfl)|exact ⟨mapAt (by (first|omega|(simp;omega)|(simp;done)|assumption)),rfl⟩|exact ⟨rfl,rfl⟩)) ?_;focus ((repeat' (with_reducible apply And.intro))<;>(first|exact True.intro|exact rfl|omega|decide|(simp;omega)|(simp;done)|assumption|exact .inl rfl|(refine .inr ?_;simp;try omega))))|fail "no step")
        all_goals (try simp only [nx,Nat.reduceAdd,Nat.reduceSub,BEq.rfl])
        all_goals refine AP.nil ?_
        all_goals exact ⟨rfl,rfl⟩
      · intro h1 h2
        simp [depsOk,Region.binds] at h1 h2
        subst h1
        (repeat (obtain ⟨rfl,h2⟩:=h2))
        (try subst h2)
        (first|(obtain rfl:l3=true:=by grind only)|skip)
        (first|(obtain rfl:l6=true:=by grind only)|skip)
        (first|(obtain rfl:l12=false:=by grind only)|skip)
        clear hcl
        all_goals simp only [cond_true,cond_false,setT,List.set_cons_succ,List.set_cons_zero,List.getD_cons_succ,List.getD_cons_zero,List.set_cons_succ]
        (first
        | ((with_reducible apply AP.k_any);refine AP.CB [(0,0)] 0 (wint_ac st e.stamp hst) ?_)
        | ((with_reducible apply AP.k_any);refine AP.CB [(0,0)] 0 (wint_ac _ e.client h1) ?_)
        | ((with_reducible apply AP.k_any);refine AP.CB [(0,0)] 0 (wint_ac _ e.id h2) ?_)
        | ((with_reducible apply AP.k_any);refine AP.CB [(0,0)] 0 (wbytes_ac _ e.body h3 hb) ?_)
        | fail "no arm")
        all_goals (try simp only [nx,Nat.reduceAdd,Nat.reduceSub,BEq.rfl])
        all_goals refine AP.nil ?_
        all_goals exact ⟨rfl,rfl⟩
      · intro h1 h2
        simp [depsOk,Region.binds] at h1 h2
        subst h1
        (repeat (obtain ⟨rfl,h2⟩:=h2))
        (try subst h2)
        clear hcl
        all_goals simp only [cond_true,cond_false,setT,List.set_cons_succ,List.set_cons_zero,List.getD_cons_succ,List.getD_cons_zero,List.set_cons_succ]
        all_goals ((with_reducible apply AP.k_any);first|(refine AP.sm false rfl ?_ ?_;focus ((repeat' (with_reducible apply And.intro))<;>(first|exact True.intro|exact rfl|omega|decide|(simp;omega)|(simp;done)|assumption|exact .inl rfl|(refine .inr ?_;simp;try omega))))|fail "no step")
        all_goals (try simp only [nx,Nat.reduceAdd,Nat.reduceSub,BEq.rfl])
        all_goals refine AP.nil ?_
        all_goals exact ⟨rfl,rfl⟩
      · intro h1 h2
        simp [depsOk,Region.binds] at h1 h2
        subst h1
        (repeat (obtain ⟨rfl,h2⟩:=h2))
        (try subst h2)
        (first|(obtain rfl:l12=false:=by grind only)|skip)
        clear hcl
        all_goals simp only [cond_true,cond_false,setT,List.set_cons_succ,List.set_cons_zero,List.getD_cons_succ,List.getD_cons_zero,List.set_cons_succ]
        all_goals ((with_reducible apply AP.k_any);first|(refine AP.sm false rfl ?_ ?_;focus ((repeat' (with_reducible apply And.intro))<;>(first|exact True.intro|exact rfl|omega|decide|(simp;omega)|(simp;done)|assumption|exact .inl rfl|(refine .inr ?_;simp;try omega))))|(refine AP.el rfl ?_ (by (first|(refine ⟨?_,?_⟩;assumption;rfl)|exact ⟨mapAt (by (first|omega|(simp;omega)|(simp;done)|assumption)),rfl⟩|exact ⟨rfl,rfl⟩)) ?_;focus ((repeat' (with_reducible apply And.intro))<;>(first|exact True.intro|exact rfl|omega|decide|(simp;omega)|(simp;done)|assumption|exact .inl rfl|(refine .inr ?_;simp;try omega))))|fail "no step")
        all_goals (try simp only [nx,Nat.reduceAdd,Nat.reduceSub,BEq.rfl])
        all_goals refine AP.nil ?_
        all_goals exact ⟨rfl,rfl⟩
      · intro h1 h2
        simp [depsOk,Region.binds] at h1 h2
        subst h1
        (repeat (obtain ⟨rfl,h2⟩:=h2))
        (try subst h2)
        (first|(obtain rfl:l3=true:=by grind only)|skip)
        (first|(obtain rfl:l6=true:=by grind only)|skip)
        (first|(obtain rfl:l9=true:=by grind only)|skip)
        clear hcl
        all_goals simp only [cond_true,cond_false,setT,List.set_cons_succ,List.set_cons_zero,List.getD_cons_succ,List.getD_cons_zero,List.set_cons_succ]
        (first
        | ((with_reducible apply AP.k_any);refine AP.CB [(0,0)] 0 (wint_ac st e.stamp hst) ?_)
        | ((with_reducible apply AP.k_any);refine AP.CB [(0,0)] 0 (wint_ac _ e.client h1) ?_)
        | ((with_reducible apply AP.k_any);refine AP.CB [(0,0)] 0 (wint_ac _ e.id h2) ?_)
        | ((with_reducible apply AP.k_any);refine AP.CB [(0,0)] 0 (wbytes_ac _ e.body h3 hb) ?_)
        | fail "no arm")
        all_goals (try simp only [nx,Nat.reduceAdd,Nat.reduceSub,BEq.rfl])
        all_goals refine AP.nil ?_
        all_goals exact ⟨rfl,rfl⟩
      · intro h1 h2
        simp [depsOk,Region.binds] at h1 h2
        subst h1
        (repeat (obtain ⟨rfl,h2⟩:=h2))
        (try subst h2)
        clear hcl
        all_goals simp only [cond_true,cond_false,setT,List.set_cons_succ,List.set_cons_zero,List.getD_cons_succ,List.getD_cons_zero,List.set_cons_succ]
        all_goals ((with_reducible apply AP.k_any);first|(refine AP.sm false rfl ?_ ?_;focus ((repeat' (with_reducible apply And.intro))<;>(first|exact True.intro|exact rfl|omega|decide|(simp;omega)|(simp;done)|assumption|exact .inl rfl|(refine .inr ?_;simp;try omega))))|fail "no step")
        all_goals (try simp only [nx,Nat.reduceAdd,Nat.reduceSub,BEq.rfl])
        all_goals refine AP.nil ?_
        all_goals exact ⟨rfl,rfl⟩
  repeat' (first|((first|((with_reducible apply AP.k_any);first|refine AP.S ?_))<;>(try simp only [nx,Nat.reduceAdd,Nat.reduceSub,BEq.rfl]))|((with_reducible apply AP.k_nil);first|(refine AP.nil (hQ' _ ?_);clear hQ' Q')|refine AP.nil ?_)|((with_reducible apply CP.k_reg);refine cp_regG fun Q' hQ'=>?_)|refine CP.W ?_|refine cp_cond rfl (fun hc=>?_) (fun hc=>?_)|(simp only [List.append_eq,List.cons_append,List.nil_append]))
  (exact RetQ.A [(0,0)] (by exact ⟨rfl,rfl⟩))
end Go.Proofs.YtmgneincjfhaoaaGreat

namespace Go.Proofs.YtmgneincjfhaoaaGreat
set_option linter.unusedVariables false
set_option linter.unusedSimpArgs false
set_option maxHeartbeats 8000000
open Go.RowKit
set_option maxRecDepth 100000
/-! of each kind: whether it may be; without its fields -/
def mayAsk (m:Msg):Bool:=clientS m.client m.id && decide (m.body.length≤20000)
def mayHave (m:Msg):Bool:=decide (0≤m.done) && decide (m.done≤m.have_)
def mayWhole (m:Msg):Bool:=decide (1≤m.since)
def bareAsk (m:Msg):Msg:={ m with client:=0,id:=0,body:=[] }
def bareHave (m:Msg):Msg:={ m with have_:=0,done:=0 }
def bareCfg (m:Msg):Msg:={ m with cfg:=cfg0 }
def bareWhole (m:Msg):Msg:={ m with since:=0 }
def bareEnt (m:Msg):Msg:={ m with upto:=0,frm:=0,entries:=[] }
theorem kmay1_ac (m:Msg):AC Tryz.prog 161 [.ag (eG m)] [] (fun v bs=>v=B (mayAsk m)∧bs=[]):=by
  refine AC.N Tryz.func161 Tryz.ntmps161 ?_
  intro X hρ hmks
  simp only [nx,Nat.reduceAdd,Nat.reduceSub,BEq.rfl]
  repeat' (first|((first|((with_reducible apply AP.k_any);first|refine AP.S ?_|(refine AP.Y ?_;dsimp only)|refine AP.G (fun hg=>?_) (fun hg=>?_))|((with_reducible apply AP.k_any);refine AP.C (client_ac _ _) ?_))<;>(try simp only [nx,Nat.reduceAdd,Nat.reduceSub,BEq.rfl]))|((with_reducible apply AP.k_nil);first|(refine AP.nil (hQ' _ ?_);clear hQ' Q')|refine AP.nil ?_)|((with_reducible apply CP.k_reg);refine cp_regG fun Q' hQ'=>?_)|refine CP.W ?_|refine cp_cond rfl (fun hc=>?_) (fun hc=>?_)|(simp only [List.append_eq,List.cons_append,List.nil_append]))
  all_goals (refine RetQ.B [] ?_;(try dsimp only [resV,List.getD_cons_succ,List.getD_cons_zero]);((refine ⟨?_,rfl⟩;simp at *;simp [mayAsk,*];try omega)))
theorem kmay5_ac (m:Msg):AC Tryz.prog 169 [.ag (eG m)] [] (fun v bs=>v=B (mayHave m)∧bs=[]):=by
  refine AC.N Tryz.func169 Tryz.ntmps169 ?_
  intro X hρ hmks
  simp only [nx,Nat.reduceAdd,Nat.reduceSub,BEq.rfl]
  repeat' (first|((first|((with_reducible apply AP.k_any);first|refine AP.S ?_|(refine AP.Y ?_;dsimp only)|refine AP.G (fun hg=>?_) (fun hg=>?_)))<;>(try simp only [nx,Nat.reduceAdd,Nat.reduceSub,BEq.rfl]))|((with_reducible apply AP.k_nil);first|(refine AP.nil (hQ' _ ?_);clear hQ' Q')|refine AP.nil ?_)|((with_reducible apply CP.k_reg);refine cp_regG fun Q' hQ'=>?_)|refine CP.W ?_|refine cp_cond rfl (fun hc=>?_) (fun hc=>?_)|(simp only [List.append_eq,List.cons_append,List.nil_append]))
  all_goals (refine RetQ.B [] ?_;(try dsimp only [resV,List.getD_cons_succ,List.getD_cons_zero]);((refine ⟨?_,rfl⟩;simp at *;simp [mayHave,*];try omega)))
theorem kmay9_ac (m:Msg) (hl:m.cfg.members.length≤100000000):AC Tryz.prog 173 [.ag (eG m)] [] (fun v bs=>v=B (mayCfg m.cfg)∧bs=[]):=by
  refine AC.N Tryz.func173 Tryz.ntmps173 ?_
  intro X hρ hmks
  simp only [nx,Nat.reduceAdd,Nat.reduceSub,BEq.rfl]
  repeat' (first|((first|((with_reducible apply AP.k_any);first|refine AP.S ?_)|((with_reducible apply AP.k_any);refine AP.C (mayConfig_ac m.cfg hl) ?_))<;>(try simp only [nx,Nat.reduceAdd,Nat.reduceSub,BEq.rfl]))|((with_reducible apply AP.k_nil);first|(refine AP.nil (hQ' _ ?_);clear hQ' Q')|refine AP.nil ?_)|((with_reducible apply CP.k_reg);refine cp_regG fun Q' hQ'=>?_)|refine CP.W ?_|refine cp_cond rfl (fun hc=>?_) (fun hc=>?_)|(simp only [List.append_eq,List.cons_append,List.nil_append]))
  all_goals (refine RetQ.B [] ?_;(try dsimp only [resV,List.getD_cons_succ,List.getD_cons_zero]);(exact ⟨rfl,rfl⟩))
theorem kmay13_ac (m:Msg):AC Tryz.prog 180 [.ag (eG m)] [] (fun v bs=>v=B (mayWhole m)∧bs=[]):=by
  refine AC.N Tryz.func180 Tryz.ntmps180 ?_
  intro X hρ hmks
  simp only [nx,Nat.reduceAdd,Nat.reduceSub,BEq.rfl]
  repeat' (first|((first|((with_reducible apply AP.k_any);first|refine AP.S ?_))<;>(try simp only [nx,Nat.reduceAdd,Nat.reduceSub,BEq.rfl]))|((with_reducible apply AP.k_nil);first|(refine AP.nil (hQ' _ ?_);clear hQ' Q')|refine AP.nil ?_)|((with_reducible apply CP.k_reg);refine cp_regG fun Q' hQ'=>?_)|refine CP.W ?_|refine cp_cond rfl (fun hc=>?_) (fun hc=>?_)|(simp only [List.append_eq,List.cons_append,List.nil_append]))
  all_goals (refine RetQ.B [] ?_;(try dsimp only [resV,List.getD_cons_succ,List.getD_cons_zero]);((refine ⟨?_,rfl⟩;simp at *;simp [mayWhole,*];try omega)))
theorem kbare2_ac (m:Msg):AC Tryz.prog 163 [.ag (eG m)] [] (fun v bs=>v=.ag (eG (bareAsk m))∧bs=[]):=by
  refine AC.N Tryz.func163 Tryz.ntmps163 ?_
  intro X hρ hmks
  simp only [nx,Nat.reduceAdd,Nat.reduceSub,BEq.rfl]
  repeat' (first|((first|((with_reducible apply AP.k_any);first|refine AP.S ?_))<;>(try simp only [nx,Nat.reduceAdd,Nat.reduceSub,BEq.rfl]))|((with_reducible apply AP.k_nil);first|(refine AP.nil (hQ' _ ?_);clear hQ' Q')|refine AP.nil ?_)|((with_reducible apply CP.k_reg);refine cp_regG fun Q' hQ'=>?_)|refine CP.W ?_|refine cp_cond rfl (fun hc=>?_) (fun hc=>?_)|(simp only [List.append_eq,List.cons_append,List.nil_append]))
  (exact RetQ.A [] (by exact ⟨rfl,rfl⟩))
theorem kbare6_ac (m:Msg):AC Tryz.prog 170 [.ag (eG m)] [] (fun v bs=>v=.ag (eG (bareHave m))∧bs=[]):=by
  refine AC.N Tryz.func170 Tryz.ntmps170 ?_
  intro X hρ hmks
  simp only [nx,Nat.reduceAdd,Nat.reduceSub,BEq.rfl]
  repeat' (first|((first|((with_reducible apply AP.k_any);first|refine AP.S ?_))<;>(try simp only [nx,Nat.reduceAdd,Nat.reduceSub,BEq.rfl]))|((with_reducible apply AP.k_nil);first|(refine AP.nil (hQ' _ ?_);clear hQ' Q')|refine AP.nil ?_)|((with_reducible apply CP.k_reg);refine cp_regG fun Q' hQ'=>?_)|refine CP.W ?_|refine cp_cond rfl (fun hc=>?_) (fun hc=>?_)|(simp only [List.append_eq,List.cons_append,List.nil_append]))
  (exact RetQ.A [] (by exact ⟨rfl,rfl⟩))
theorem kbare10_ac (m:Msg):AC Tryz.prog 175 [.ag (eG m)] [] (fun v bs=>v=.ag (eG (bareCfg m))∧bs=[]):=by
  refine AC.N Tryz.func175 Tryz.ntmps175 ?_
  intro X hρ hmks
  simp only [nx,Nat.reduceAdd,Nat.reduceSub,BEq.rfl]
  repeat' (first|((first|((with_reducible apply AP.k_any);first|refine AP.S ?_))<;>(try simp only [nx,Nat.reduceAdd,Nat.reduceSub,BEq.rfl]))|((with_reducible apply AP.k_nil);first|(refine AP.nil (hQ' _ ?_);clear hQ' Q')|refine AP.nil ?_)|((with_reducible apply CP.k_reg);refine cp_regG fun Q' hQ'=>?_)|refine CP.W ?_|refine cp_cond rfl (fun hc=>?_) (fun hc=>?_)|(simp only [List.append_eq,List.cons_append,List.nil_append]))
  (exact RetQ.A [] (by exact ⟨rfl,rfl⟩))
theorem kbare14_ac (m:Msg):AC Tryz.prog 181 [.ag (eG m)] [] (fun v bs=>v=.ag (eG (bareWhole m))∧bs=[]):=by
  refine AC.N Tryz.func181 Tryz.ntmps181 ?_
  intro X hρ hmks
  simp only [nx,Nat.reduceAdd,Nat.reduceSub,BEq.rfl]
  repeat' (first|((first|((with_reducible apply AP.k_any);first|refine AP.S ?_))<;>(try simp only [nx,Nat.reduceAdd,Nat.reduceSub,BEq.rfl]))|((with_reducible apply AP.k_nil);first|(refine AP.nil (hQ' _ ?_);clear hQ' Q')|refine AP.nil ?_)|((with_reducible apply CP.k_reg);refine cp_regG fun Q' hQ'=>?_)|refine CP.W ?_|refine cp_cond rfl (fun hc=>?_) (fun hc=>?_)|(simp only [List.append_eq,List.cons_append,List.nil_append]))
  (exact RetQ.A [] (by exact ⟨rfl,rfl⟩))
theorem ebare2_ac (m:Msg):AC Tryz.prog 201 [.ag (eG m)] [] (fun v bs=>v=.ag (eG (bareEnt m))∧bs=[]):=by
  refine AC.N Tryz.func201 Tryz.ntmps201 ?_
  intro X hρ hmks
  simp only [nx,Nat.reduceAdd,Nat.reduceSub,BEq.rfl]
  repeat' (first|((first|((with_reducible apply AP.k_any);first|refine AP.S ?_))<;>(try simp only [nx,Nat.reduceAdd,Nat.reduceSub,BEq.rfl]))|((with_reducible apply AP.k_nil);first|(refine AP.nil (hQ' _ ?_);clear hQ' Q')|refine AP.nil ?_)|((with_reducible apply CP.k_reg);refine cp_regG fun Q' hQ'=>?_)|refine CP.W ?_|refine cp_cond rfl (fun hc=>?_) (fun hc=>?_)|(simp only [List.append_eq,List.cons_append,List.nil_append]))
  (exact RetQ.A [] (by exact ⟨rfl,rfl⟩))
def noneM (m:Msg):Bool:=m.client == 0 && m.id == 0 && m.body.isEmpty && m.upto == 0 && m.frm == 0 && m.entries.isEmpty && m.have_ == 0 && m.done == 0 && m.cfg.epoch == 0 && m.cfg.members.isEmpty && m.since == 0
theorem none_ac (m:Msg):AC Tryz.prog 128 [.ag (eG m)] [] (fun v bs=>v=B (noneM m)∧bs=[]):=by
  refine AC.N Tryz.func128 Tryz.ntmps128 ?_
  intro X hρ hmks
  simp only [nx,Nat.reduceAdd,Nat.reduceSub,BEq.rfl]
  repeat' (first|((first|((with_reducible apply AP.k_any);first|refine AP.S ?_|(refine AP.Y ?_;dsimp only)|refine AP.G (fun hg=>?_) (fun hg=>?_)))<;>(try simp only [nx,Nat.reduceAdd,Nat.reduceSub,BEq.rfl]))|((with_reducible apply AP.k_nil);first|(refine AP.nil (hQ' _ ?_);clear hQ' Q')|refine AP.nil ?_)|((with_reducible apply CP.k_reg);refine cp_regG fun Q' hQ'=>?_)|refine CP.W ?_|refine cp_cond rfl (fun hc=>?_) (fun hc=>?_)|(simp only [List.append_eq,List.cons_append,List.nil_append]))
  all_goals (refine RetQ.B [] ?_;(try dsimp only [resV,List.getD_cons_succ,List.getD_cons_zero]);((refine ⟨?_,rfl⟩;simp at *;simp [noneM,*])))
/-! the table of kinds -/
abbrev kAsk:List AV:=[fnv 161,fnv 163,fnv 164,fnv 167]
abbrev kHave:List AV:=[fnv 169,fnv 170,fnv 171,fnv 172]
abbrev kCfg:List AV:=[fnv 173,fnv 175,fnv 176,fnv 178]
abbrev kWhole:List AV:=[fnv 180,fnv 181,fnv 182,fnv 183]
abbrev kEnt:List AV:=[fnv 197,fnv 201,fnv 202,fnv 204]
abbrev kNo:List AV:=[.sc .nilFunc,.sc .nilFunc,.sc .nilFunc,.sc .nilFunc]
theorem entries_ac:AC Tryz.prog 168 [] [] (fun v bs=>v=.ag kEnt∧bs=[]):=by
  refine AC.N Tryz.func168 Tryz.ntmps168 ?_
  intro X hρ hmks
  simp only [nx,Nat.reduceAdd,Nat.reduceSub,BEq.rfl]
  repeat' (first|((first|((with_reducible apply AP.k_any);first|refine AP.S ?_))<;>(try simp only [nx,Nat.reduceAdd,Nat.reduceSub,BEq.rfl]))|((with_reducible apply AP.k_nil);first|(refine AP.nil (hQ' _ ?_);clear hQ' Q')|refine AP.nil ?_)|((with_reducible apply CP.k_reg);refine cp_regG fun Q' hQ'=>?_)|refine CP.W ?_|refine cp_cond rfl (fun hc=>?_) (fun hc=>?_)|(simp only [List.append_eq,List.cons_append,List.nil_append]))
  (exact RetQ.A [] (by exact ⟨rfl,rfl⟩))
theorem kinds_ac:AC Tryz.prog 126 [] [] (fun v bs=>v=.ag (kNo ++ (kAsk ++ (kEnt ++ (kHave ++ (kCfg ++ (kWhole ++ kAsk))))))∧bs=[]):=by
  refine AC.N Tryz.func126 Tryz.ntmps126 ?_
  intro X hρ hmks
  simp only [nx,Nat.reduceAdd,Nat.reduceSub,BEq.rfl]
  repeat' (first|((first|((with_reducible apply AP.k_any);first|refine AP.S ?_)|((with_reducible apply AP.k_any);refine AP.C (entries_ac) ?_)|((with_reducible apply DW.k_any);first|refine DW.R ?_|refine DW.R' ?_|refine DW.W ?_|refine DW.W' ?_|(refine DW.known rfl ?_;(with_reducible first|apply DW.sx 2|apply DW.sxN 2);(iterate 2 (focus (simp only [ft,nm,Nat.reduceAdd,Nat.reduceBEq,List.getElem?_cons_zero,List.getElem?_cons_succ];exact rfl)));(focus (intro X V;simp only [ft,nm,Nat.reduceAdd,Nat.reduceBEq];(try (refine AP.Y ?_;dsimp only));(first|((with_reducible apply AP.k_any);refine AP.C (entries_ac) ?_)|fail);(try simp only [nx,Nat.reduceAdd,Nat.reduceSub,BEq.rfl]);refine AP.nil ?_;(first|refine ⟨trivial,rfl,?_⟩|refine ⟨rfl,rfl,?_⟩);(repeat' (first|exact Mg.nil|apply Mg.keep rfl|apply Mg.take rfl));done));(focus (refine Exists.intro (fun _=>0) ?_;apply Exists.intro;(repeat' (first|exact Mg.nil|apply Mg.keep rfl|apply Mg.take rfl));done));(iterate 2 (focus (exact rfl))))|((fail_if_success refine DW.known rfl ?_);refine DW.G (fun hg=>?_) (fun hg=>?_))))<;>(try simp only [nx,Nat.reduceAdd,Nat.reduceSub,BEq.rfl]))|((with_reducible apply AP.k_nil);first|(refine AP.nil (hQ' _ ?_);clear hQ' Q')|refine AP.nil ?_)|((with_reducible apply CP.k_drw);refine cp_drwX fun Q' hQ'=>?_)|((with_reducible apply CP.k_drw1);refine cp_drawX ?_)|((with_reducible apply DW.k_nil);refine DW.nl ?_;first|(refine hQ' _ ?_;clear hQ' Q')|skip)|((with_reducible apply CP.k_reg);refine cp_regG fun Q' hQ'=>?_)|refine CP.W ?_|refine cp_cond rfl (fun hc=>?_) (fun hc=>?_)|(simp only [List.append_eq,List.cons_append,List.nil_append]))
  (exact RetQ.A [] (by exact ⟨rfl,rfl⟩))
end Go.Proofs.YtmgneincjfhaoaaGreat
