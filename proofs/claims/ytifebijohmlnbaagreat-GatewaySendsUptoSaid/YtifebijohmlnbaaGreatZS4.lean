/-
  Texts joined: W11, S1, S2, V1, Ca, T1, T2, S3, It, Rg, S4, S5, S6, T3, T4, T5, X1, V2, H1, H2, H3, H4, H5, Lk1, H6, H7, H8.
-/
import Derived.Test.YtifebijohmlnbaaGreatZS1
import Derived.Test.YtifebijohmlnbaaGreatZS2
import Derived.Test.YtifebijohmlnbaaGreatZS3
namespace Go.Proofs.YtifebijohmlnbaaGreat
set_option linter.unusedVariables false
set_option linter.unusedSimpArgs false
open Go.RowKit
set_option maxRecDepth 100000
set_option maxHeartbeats 8000000
def beN (l:List UInt8):Nat:=l.foldl (fun x c=>256 * x + c.toNat) 0
theorem beN_snoc (l:List UInt8) (c:UInt8):beN (l ++ [c])=256 * beN l + c.toNat:=by simp [beN,List.foldl_append]
theorem beN_lt (l:List UInt8):beN l < 256 ^ l.length:=by
 have h:∀ (l:List UInt8) (x:Nat),l.foldl (fun x c=>256 * x + c.toNat) x + 1≤(x + 1) * 256 ^ l.length:=by
  intro l
  induction l with
  | nil=>intro x;simp
  | cons c l ih=>
   intro x;refine Nat.le_trans (ih _) ?_;rw [List.length_cons,Nat.pow_succ',←Nat.mul_assoc];refine Nat.mul_le_mul_right _ ?_;have:=c.toNat_lt
   show 256 * x + c.toNat + 1≤_
   omega
 have:=h l 0;simp only [beN];omega
def loadS (b:List UInt8) (p:Int) (n:Nat):Nat×Bool:=if p < 0∨(b.length:Int) - n < p then (0,false) else (beN ((b.drop p.toNat).take n),true)
theorem or8 (x c:Nat) (hx:x < 2 ^ 56) (hc:c < 256):IntKind.u64.wrap (BitVec.toNat (BitVec.ofInt 64 (IntKind.u64.wrap ((x:Int) * 2 ^ 8)) ||| BitVec.ofInt 64 (IntKind.u64.wrap (c:Int))))=((256 * x + c:Nat):Int):=by
 have e1:IntKind.u64.wrap ((x:Int) * 2 ^ 8)=((x * 256:Nat):Int):=by simp [IntKind.wrap,IntKind.bits,IntKind.signed];omega
 have e2:IntKind.u64.wrap (c:Int)=(c:Int):=by simp [IntKind.wrap,IntKind.bits,IntKind.signed];omega
 rw [e1,e2,BitVec.ofInt_natCast,BitVec.ofInt_natCast,BitVec.toNat_or,BitVec.toNat_ofNat,BitVec.toNat_ofNat,Nat.mod_eq_of_lt (by omega),Nat.mod_eq_of_lt (by omega)]
 have e3:x * 256 ||| c=256 * x + c:=by
  have:=Nat.shiftLeft_add_eq_or_of_lt (i:=8) (b:=c) hc x;rw [Nat.shiftLeft_eq,show (2:Nat) ^ 8=256 from rfl] at this;omega
 rw [e3];simp [IntKind.wrap,IntKind.bits,IntKind.signed];omega
theorem or8' (x c:Nat) (hx:x < 2 ^ 56) (hc:c < 256):IntKind.u64.wrap (BitVec.toNat (BitVec.ofInt IntKind.u64.bits (IntKind.u64.wrap ((x:Int) * 2 ^ min (Int.toNat 8) IntKind.u64.bits)) ||| BitVec.ofInt IntKind.u64.bits (IntKind.u64.wrap (c:Int))))=((256 * x + c:Nat):Int):=or8 x c hx hc
theorem load_ac (b:List UInt8) (p:Int) (n:Nat) (hn:n≤8) (hb:b.length≤100000000) (hp:p≤200000000) (hp2:-1000000≤p) :
 AC Tryz.prog 139 [bs none b,I p,I n] [] (fun v bs'=>v=.tu [.sc (.int .u64 ((loadS b p n).1:Int)),B (loadS b p n).2]∧bs'=[]):=by
 have hw0:IntKind.i64.wrap ((b.length:Int) - n)=(b.length:Int) - n:=wrap_i64 (by omega) (by omega);have hw1:IntKind.i64.wrap (p + n)=p + n:=wrap_i64 (by omega) (by omega)
 by_cases hs:p < 0∨(b.length:Int) - n < p
 ·have e0:loadS b p n=(0,false):=by simp [loadS,hs]
  rw [e0];refine AC.N Tryz.func139 Tryz.ntmps139 ?_;intro X hρ hmks;refine NX ?_
  repeat' (first|((first|refine wA5 ?_|((with_reducible apply AP.k_any);first|refine AP.E ?_)|(refine GA ?_;refine ⟨fun hg=>?_,fun hg=>?_⟩))<;>(try refine NX ?_))|refine wT4 ?_|with_reducible intro Q' hQ'|(refine GC ?_;refine ⟨fun hc=>?_,fun hc=>?_⟩)|simp only [la])
  all_goals first
   | (refine RetQ.B [] ?_;(try dsimp only [resV,List.getD_cons_succ,List.getD_cons_zero]);(exact ⟨rfl,rfl⟩))
   | (exfalso;simp [hw0] at *;omega)
 ·have e0:loadS b p n=(beN ((b.drop p.toNat).take n),true):=by simp [loadS,hs]
  rw [e0];obtain ⟨q,rfl⟩:∃ q:Nat,p=q:=⟨p.toNat,by omega⟩;have g1:(q:Int)≤IntKind.i64.wrap ((q:Int) + n):=by rw [hw1];omega
  have g2:IntKind.i64.wrap ((q:Int) + n)≤((b.map eB).length:Int):=by rw [hw1];simp;omega
  have e2:(b.drop q).take (((q:Int) + n).toNat - q)=(b.drop q).take n:=by rw [show ((q:Int) + n).toNat - q=n by omega]
  have hl:((b.drop q).take n).length=n:=by (rw [List.length_take,List.length_drop];omega)
  refine AC.N Tryz.func139 Tryz.ntmps139 ?_;intro X hρ hmks;refine NX ?_
  repeat' (first|((first|refine wA5 ?_|((with_reducible apply AP.k_any);first|refine AP.E ?_)|(refine GA ?_;refine ⟨fun hg=>?_,fun hg=>?_⟩))<;>(try refine NX ?_))|refine wT4 ?_|with_reducible intro Q' hQ'|(refine GC ?_;refine ⟨fun hc=>?_,fun hc=>?_⟩)|simp only [la])
  all_goals first
   | (exfalso;simp [hw0] at *;omega)
   | skip
  ·simp only [hw1,Int.toNat_natCast,e2];generalize (b.drop q).take n=c at hl e2 ⊢;refine cp_loopS [8,10,28,29,30,31,32,33,34,35,36,37] (fun k:Nat=>c.length - k) (fun k=>k≤c.length) (fun k=>[(28,I k),(8,.sc (.int .u64 (beN (c.take k):Int)))]) (fun _=>[]) 0 (Nat.zero_le _) (by exact Gh.W) ?_;rintro k hk;simp only [setT,deT,setB,List.set_cons_succ,List.set_cons_zero]
   by_cases hlt:k < c.length
   ·have hw:IntKind.i64.wrap ((k:Int) + 1)=((k + 1:Nat):Int):=wrap_i64 (by omega) (by omega);have hb1:=beN_lt (c.take k);have hb2:256 ^ (c.take k).length≤256 ^ 7:=Nat.pow_le_pow_right (by omega) (by simp;omega);have ho:=or8' (beN (c.take k)) c[k].toNat (by omega) c[k].toNat_lt;have hsn:beN (c.take (k + 1))=256 * beN (c.take k) + c[k].toNat:=by rw [List.take_succ_eq_append_getElem hlt,beN_snoc]
    repeat' (first|((first|refine wA5 ?_|((with_reducible apply AP.k_any);first|refine AP.E ?_)|(refine GA ?_;refine ⟨fun hg=>?_,fun hg=>?_⟩))<;>(try refine NX ?_))|refine wT4 ?_|with_reducible intro Q' hQ'|(refine GC ?_;refine ⟨fun hc=>?_,fun hc=>?_⟩)|simp only [la])
    ·simp only [hw];refine ⟨k + 1,by omega,by omega,?_⟩;rw [hsn,←ho];exact Gh.W
    ·exfalso;simp at *;omega
   ·obtain rfl:k=c.length:=by omega
    rw [List.take_length]
    repeat' (first|((first|refine wA5 ?_|((with_reducible apply AP.k_any);first|refine AP.E ?_)|(refine GA ?_;refine ⟨fun hg=>?_,fun hg=>?_⟩))<;>(try refine NX ?_))|refine wT4 ?_|with_reducible intro Q' hQ'|(refine GC ?_;refine ⟨fun hc=>?_,fun hc=>?_⟩)|simp only [la])
    all_goals first
     | (exfalso;simp at *;done)
     | (exfalso;simp at *;omega)
     | (refine RetQ.B [] ?_;(try dsimp only [resV,List.getD_cons_succ,List.getD_cons_zero]);(exact ⟨rfl,rfl⟩))
theorem wA7 {G G':Prop} (K:G') (h:G'→G:=by (intro kz;(with_reducible apply AP.k_any);first|exact AP.S kz|exact AP.A kz|exact AP.AB 0 kz|exact AP.AB 1 kz|exact AP.AL kz|exact AP.LB kz|exact AP.TB kz|exact AP.IX kz|exact AP.SF kz|exact AP.SV kz|exact AP.CV kz|exact AP.CO kz)):G:=h K
theorem rl_ac (x:UInt32) (k:Int):AC Tryz.prog 246 [Q4 x,I k] [] (fun v bs'=>v=Q4 (rlX x k)∧bs'=[]):=by
 have h0:=rlJ_nn k;have h1:=wu64_nn (32 - rlJ k);unfold rlJ at h0 h1;refine AC.N Tryz.func246 Tryz.ntmps246 ?_;intro X hρ hmks;refine NX ?_
 repeat' (first|((first|refine wA7 ?_|refine wA2 ?_)<;>(try simp only [nx,q4,rn,fq,Nat.mul_one,Bool.and_true,Bool.and_false,Nat.reduceBEq,Nat.reduceAdd,Nat.reduceSub,BEq.rfl]))|refine wT4 ?_|with_reducible intro Q' hQ'|(refine GC ?_;refine ⟨fun hc=>?_,fun hc=>?_⟩)|simp only [la])
 (exact RetQ.A [] (by exact ⟨rfl,rfl⟩))
theorem rotr_ac (x:UInt32) (n:Nat) (h1:1≤n) (h2:n≤31):AC Tryz.prog 244 [Q4 x,I n] [] (fun v bs'=>v=Q4 (rotr x n)∧bs'=[]):=by
 have h:=rl_ac x (IntKind.i64.wrap (0 - Int.tmod (n:Int) 32));rw [rl_rot h1 h2] at h;refine AC.N Tryz.func244 Tryz.ntmps244 ?_;intro X hρ hmks;refine NX ?_
 repeat' (first|((first|refine wA7 ?_|refine wA2 ?_)<;>(try simp only [nx,q4,rn,fq,Nat.mul_one,Bool.and_true,Bool.and_false,Nat.reduceBEq,Nat.reduceAdd,Nat.reduceSub,BEq.rfl]))|refine wT4 ?_|with_reducible intro Q' hQ'|(refine GC ?_;refine ⟨fun hc=>?_,fun hc=>?_⟩)|simp only [la])
 (exact RetQ.A [] (by exact ⟨rfl,rfl⟩))
theorem shr_ac (x:UInt32) (n:Nat) (hn:0 < n):AC Tryz.prog 245 [Q4 x,I n] [] (fun v bs'=>v=Q4 (shrI x n)∧bs'=[]):=by
 have hd:(if (n:Int) < 0 then (0:Int) else (n:Int))=n:=if_neg (by omega);refine AC.N Tryz.func245 Tryz.ntmps245 ?_;intro X hρ hmks;refine NX ?_
 repeat' (first|((first|refine wA7 ?_|refine wA2 ?_)<;>(try simp only [nx,q4,rn,fq,Nat.mul_one,Bool.and_true,Bool.and_false,Nat.reduceBEq,Nat.reduceAdd,Nat.reduceSub,BEq.rfl]))|refine wT4 ?_|with_reducible intro Q' hQ'|(refine GC ?_;refine ⟨fun hc=>?_,fun hc=>?_⟩)|simp only [la])
 simp only [hd];(exact RetQ.A [] (by exact ⟨rfl,rfl⟩))
/-- Σ, σ -/
def tnS (x:UInt32) (a b c:Nat):UInt32:=rotr x a ^^^ rotr x b ^^^ rotr x c
def smS (x:UInt32) (a b c:Nat):UInt32:=rotr x a ^^^ rotr x b ^^^ shrI x c
theorem turned_ac (x:UInt32) (a b c:Nat) (ha:1≤a∧a≤31) (hb:1≤b∧b≤31) (hc:1≤c∧c≤31):AC Tryz.prog 243 [Q4 x,I a,I b,I c] [] (fun v bs'=>v=Q4 (tnS x a b c)∧bs'=[]):=by
 have h1:=rotr_ac x a ha.1 ha.2;have h2:=rotr_ac x b hb.1 hb.2;have h3:=rotr_ac x c hc.1 hc.2;refine AC.N Tryz.func243 Tryz.ntmps243 ?_;intro X hρ hmks;refine NX ?_
 repeat' (first|((first|refine wA7 ?_|refine aC1 h1 ?_|refine aC1 h2 ?_|refine aC1 h3 ?_|refine wA2 ?_)<;>(try simp only [nx,q4,rn,fq,Nat.mul_one,Bool.and_true,Bool.and_false,Nat.reduceBEq,Nat.reduceAdd,Nat.reduceSub,BEq.rfl]))|refine wT4 ?_|with_reducible intro Q' hQ'|(refine GC ?_;refine ⟨fun hc=>?_,fun hc=>?_⟩)|simp only [la])
 (exact RetQ.A [] (by exact ⟨rfl,rfl⟩))
theorem small_ac (x:UInt32) (a b c:Nat) (ha:1≤a∧a≤31) (hb:1≤b∧b≤31) (hc:1≤c∧c≤31):AC Tryz.prog 241 [Q4 x,I a,I b,I c] [] (fun v bs'=>v=Q4 (smS x a b c)∧bs'=[]):=by
 have h1:=rotr_ac x a ha.1 ha.2;have h2:=rotr_ac x b hb.1 hb.2;have h3:=shr_ac x c (by omega);refine AC.N Tryz.func241 Tryz.ntmps241 ?_;intro X hρ hmks;refine NX ?_
 repeat' (first|((first|refine wA7 ?_|refine aC1 h1 ?_|refine aC1 h2 ?_|refine aC1 h3 ?_|refine wA2 ?_)<;>(try simp only [nx,q4,rn,fq,Nat.mul_one,Bool.and_true,Bool.and_false,Nat.reduceBEq,Nat.reduceAdd,Nat.reduceSub,BEq.rfl]))|refine wT4 ?_|with_reducible intro Q' hQ'|(refine GC ?_;refine ⟨fun hc=>?_,fun hc=>?_⟩)|simp only [la])
 (exact RetQ.A [] (by exact ⟨rfl,rfl⟩))
def K32:List UInt32:=[0x428a2f98,0x71374491,0xb5c0fbcf,0xe9b5dba5,0x3956c25b,0x59f111f1,0x923f82a4,0xab1c5ed5,0xd807aa98,0x12835b01,0x243185be,0x550c7dc3,0x72be5d74,0x80deb1fe,0x9bdc06a7,0xc19bf174,0xe49b69c1,0xefbe4786,0x0fc19dc6,0x240ca1cc,0x2de92c6f,0x4a7484aa,0x5cb0a9dc,0x76f988da,0x983e5152,0xa831c66d,0xb00327c8,0xbf597fc7,0xc6e00bf3,0xd5a79147,0x06ca6351,0x14292967,0x27b70a85,0x2e1b2138,0x4d2c6dfc,0x53380d13,0x650a7354,0x766a0abb,0x81c2c92e,0x92722c85,0xa2bfe8a1,0xa81a664b,0xc24b8b70,0xc76c51a3,0xd192e819,0xd6990624,0xf40e3585,0x106aa070,0x19a4c116,0x1e376c08,0x2748774c,0x34b0bcb5,0x391c0cb3,0x4ed8aa4a,0x5b9cca4f,0x682e6ff3,0x748f82ee,0x78a5636f,0x84c87814,0x8cc70208,0x90befffa,0xa4506ceb,0xbef9a3f7,0xc67178f2]
def be4 (b:List UInt8) (p:Int):UInt32:=UInt32.ofNat (loadS b p 4).1
theorem w32_of (n:Nat):IntKind.u32.wrap (n:Int)=((UInt32.ofNat n).toNat:Int):=by rw [w32_nat];rfl
theorem load32_ac (b:List UInt8) (p:Int) (hb:b.length≤100000000) (hp:p≤200000000) (hp2:-1000000≤p):AC Tryz.prog 81 [bs none b,I p] [] (fun v bs'=>v=.tu [Q4 (be4 b p),B (loadS b p 4).2]∧bs'=[]):=by
 have h:=load_ac b p 4 (by omega) hb hp hp2;unfold be4;generalize loadS b p 4=r at h ⊢;refine AC.N Tryz.func81 Tryz.ntmps81 ?_;intro X hρ hmks;refine NX ?_
 repeat' (first|((first|refine wA7 ?_|refine wA2 ?_)<;>(try simp only [w32_of,nx,q4,rn,fq,Nat.mul_one,Bool.and_true,Bool.and_false,Nat.reduceBEq,Nat.reduceAdd,Nat.reduceSub,BEq.rfl]))|refine wT4 ?_|with_reducible intro Q' hQ'|(refine GC ?_;refine ⟨fun hc=>?_,fun hc=>?_⟩)|simp only [la])
 (exact RetQ.A [] (by exact ⟨rfl,rfl⟩))
theorem constants_ac:AC Tryz.prog 242 [] [] (fun v bs'=>v=.ag (K32.map Q4)∧bs'=[]):=by
 refine AC.N Tryz.func242 Tryz.ntmps242 ?_;intro X hρ hmks;refine NX ?_
 repeat' (first|((first|refine wA7 ?_|refine wA2 ?_)<;>(try simp only [nx,q4,rn,fq,Nat.mul_one,Bool.and_true,Bool.and_false,Nat.reduceBEq,Nat.reduceAdd,Nat.reduceSub,BEq.rfl]))|refine wT4 ?_|with_reducible intro Q' hQ'|(refine GC ?_;refine ⟨fun hc=>?_,fun hc=>?_⟩)|simp only [la])
 (exact RetQ.A [] (by exact ⟨rfl,rfl⟩))
structure S8 where
 (a b c d e f g h:UInt32)
abbrev e8 (s:S8):List AV:=[Q4 s.a,Q4 s.b,Q4 s.c,Q4 s.d,Q4 s.e,Q4 s.f,Q4 s.g,Q4 s.h]
def s8z:S8:=⟨0x6a09e667,0xbb67ae85,0x3c6ef372,0xa54ff53a,0x510e527f,0x9b05688c,0x1f83d9ab,0x5be0cd19⟩
theorem first_ac:AC Tryz.prog 228 [] [] (fun v bs'=>v=.ag (e8 s8z)∧bs'=[]):=by
 refine AC.N Tryz.func228 Tryz.ntmps228 ?_;intro X hρ hmks;refine NX ?_
 repeat' (first|((first|refine wA7 ?_|refine wA2 ?_)<;>(try simp only [nx,q4,rn,fq,Nat.mul_one,Bool.and_true,Bool.and_false,Nat.reduceBEq,Nat.reduceAdd,Nat.reduceSub,BEq.rfl]))|refine wT4 ?_|with_reducible intro Q' hQ'|(refine GC ?_;refine ⟨fun hc=>?_,fun hc=>?_⟩)|simp only [la])
 (exact RetQ.A [] (by exact ⟨rfl,rfl⟩))
/-- the schedule's first words -/
def wX (b:List UInt8) (l:List UInt32) (n:Nat):UInt32:=if n < 16 then be4 b (4 * n) else smS (l.getD (n - 2) 0) 17 19 10 + l.getD (n - 7) 0 + smS (l.getD (n - 15) 0) 7 18 3 + l.getD (n - 16) 0
def wS (b:List UInt8):Nat→List UInt32
 | 0=>[]
 | n + 1=>wS b n ++ [wX b (wS b n) n]
theorem wS_len (b:List UInt8):∀ n,(wS b n).length=n
 | 0=>rfl
 | n + 1=>by simp [wS,wS_len b n]
def scB (b:List UInt8) (n:Nat):List AV:=(wS b n ++ List.replicate (64 - n) 0).map Q4
theorem scB_len (b:List UInt8) (n:Nat) (h:n≤64):(scB b n).length=64:=by simp [scB,wS_len];omega
theorem scB_at (b:List UInt8) {n i:Nat} (h:i < n):(scB b n)[i]? = some (Q4 ((wS b n).getD i 0)):=by
 have:=wS_len b n;unfold scB;rw [List.getElem?_map,List.getElem?_append_left (by omega),List.getD_eq_getElem?_getD,List.getElem?_eq_getElem (by omega)];rfl
theorem scB_set (b:List UInt8) {n:Nat} (h:n < 64):(scB b n).set n (Q4 (wX b (wS b n) n))=scB b (n + 1):=by
 unfold scB;rw [←List.map_set]
 congr 1
 have hl:=wS_len b n;rw [List.set_append_right _ _ (by omega),hl,Nat.sub_self,show 64 - n=(64 - (n + 1)) + 1 by omega,List.replicate_succ,List.set_cons_zero];simp [wS]
/-- one round -/
def rnd (s:S8) (k w:UInt32):S8:=
 let one:=s.h + tnS s.e 6 11 25 + (s.e &&& s.f ||| ~~~s.e &&& s.g) + k + w
 let two:=tnS s.a 2 13 22 + (s.a &&& s.b ||| s.a &&& s.c ||| s.b &&& s.c)
 ⟨one + two,s.a,s.b,s.c,s.d + one,s.e,s.f,s.g⟩
def rS (n:S8) (b:List UInt8):Nat→S8
 | 0=>n
 | t + 1=>rnd (rS n b t) (K32.getD t 0) ((wS b 64).getD t 0)
def blockS (n:S8) (b:List UInt8):S8:=
 let x:=rS n b 64
 ⟨n.a + x.a,n.b + x.b,n.c + x.c,n.d + x.d,n.e + x.e,n.f + x.f,n.g + x.g,n.h + x.h⟩
theorem oc_Q4:∀ (l:List UInt32) (t:List Sl),opnC (l.map Q4) t=(l.map Q4,t)
 | [],_=>rfl
 | x :: l,t=>by rw [List.map_cons,oc_sc,oc_Q4 l]
theorem K32_at {i:Nat} (h:i < 64):(K32.map Q4)[i]? = some (Q4 (K32.getD i 0)):=by
 have:K32.length=64:=rfl;simp [List.getD_eq_getElem?_getD,List.getElem?_eq_getElem (show i < K32.length by omega)]
theorem putS_take (x:Nat):∀ (n i:Nat),i < n→(putS x n).take (i + 1)=(putS x n).take i ++ [UInt8.ofNat (x / 256 ^ (n - 1 - i) % 256)]
 | n + 1,0,_=>by simp [putS]
 | n + 1,i + 1,h=>by
  have:=putS_take x n i (by omega);simp only [putS,List.take_succ_cons,List.cons_append];rw [this,show n + 1 - 1 - (i + 1)=n - 1 - i by omega]
theorem rput_ac (x n:Nat) (hn:n≤8) (hx:x < 18446744073709551616) :
 AC Tryz.prog 173 [.sc (.int .u64 (x:Int)),I n] [] (fun v bs'=>v=bs (some tU) (putS x n)∧bs'=[]):=by
 have hpl:=putS_length x n;refine AC.N Tryz.func173 Tryz.ntmps173 ?_;intro X hρ hmks;refine NX ?_
 repeat' (first|((first|refine wA4 ?_)<;>(try refine NX ?_))|refine wT4 ?_|with_reducible intro Q' hQ'|(refine GC ?_;refine ⟨fun hc=>?_,fun hc=>?_⟩)|simp only [la])
 refine CP.gh (gh_nil (t:=5) (e:=tU) (k:=1) rfl) ?_;refine NX ?_;refine CP.gh gh_slot ?_;refine NX ?_;refine cp_loopS [5,6,7,8,9,10,11,12,13,14,15,16,17,18,19,20,21,22,23,24,25,26,27,28,29] (fun a:Nat×Nat×Nat=>n - a.1) (fun a=>a.1≤n) (fun a=>[(6,I a.1),(5,.hd 0 a.2.1)]) (fun a=>[(0,⟨a.2.1,.r tU 1 (((putS x n).take a.1).map eB)⟩),(1,⟨a.2.2,.x⟩)]) (0,1,0) (Nat.zero_le _) (by exact Gh.W) ?_;rintro ⟨i,u,v⟩ hi;simp only [setT,deT,setB,List.set_cons_succ,List.set_cons_zero];dsimp only at hi
 by_cases hlt:i < n
 ·have hw:IntKind.i64.wrap ((i:Int) + 1)=((i + 1:Nat):Int):=wrap_i64 (by omega) (by omega);have hw1:IntKind.i64.wrap ((n:Int) - 1)=((n - 1:Nat):Int):=by rw [wrap_i64 (by omega) (by omega)];omega
  have hlen:(((putS x n).take i).map eB).length + 1≤1000000000:=by simp;omega
  repeat' (first|((first|refine wA4 ?_)<;>(try refine NX ?_))|refine wT4 ?_|with_reducible intro Q' hQ'|(refine GC ?_;refine ⟨fun hc=>?_,fun hc=>?_⟩)|simp only [la])
  ·refine cp_loopS [7,8,16,17,18,19,20,21,22,23] (fun k:Nat=>n - 1 - k) (fun k=>i≤k∧k≤n - 1) (fun k=>[(7,.sc (.int .u64 ((x / 256 ^ (k - i):Nat):Int))),(8,I k)]) (fun _=>[]) i ⟨Nat.le_refl _,by omega⟩ (by (simp only [Nat.sub_self,Nat.pow_zero,Nat.div_one]);exact Gh.W) ?_;rintro k ⟨hk1,hk2⟩;simp only [setT,deT,setB,List.set_cons_succ,List.set_cons_zero]
   by_cases hlk:k < n - 1
   ·have hwk:IntKind.i64.wrap ((k:Int) + 1)=((k + 1:Nat):Int):=wrap_i64 (by omega) (by omega)
    have hq:IntKind.u64.wrap (((x / 256 ^ (k - i):Nat):Int).tdiv 256)=((x / 256 ^ (k + 1 - i):Nat):Int):=by
     have e1:x / 256 ^ (k + 1 - i)=x / 256 ^ (k - i) / 256:=by rw [show k + 1 - i=(k - i) + 1 by omega,Nat.pow_succ,Nat.div_div_eq_div_mul]
     have e2:x / 256 ^ (k - i)≤x:=Nat.div_le_self _ _;rw [e1,show (256:Int)=((256:Nat):Int) from rfl,←Int.ofNat_tdiv];generalize x / 256 ^ (k - i)=y at e2;simp [IntKind.wrap,IntKind.bits,IntKind.signed];omega
    repeat' (first|((first|refine wA4 ?_)<;>(try refine NX ?_))|refine wT4 ?_|with_reducible intro Q' hQ'|(refine GC ?_;refine ⟨fun hc=>?_,fun hc=>?_⟩)|simp only [la])
    ·simp only [hwk,hq];exact ⟨k + 1,by omega,⟨by omega,by omega⟩,by exact Gh.W⟩
    ·exfalso;simp [hw1] at *;omega
   ·obtain rfl:k=n - 1:=by omega
    have hr:IntKind.u8.wrap (((x / 256 ^ (n - 1 - i):Nat):Int).tmod 256)=((UInt8.ofNat (x / 256 ^ (n - 1 - i) % 256)).toNat:Int):=by
     rw [show (256:Int)=((256:Nat):Int) from rfl,←Int.ofNat_tmod,UInt8.toNat_ofNat'];simp [IntKind.wrap,IntKind.bits,IntKind.signed]
    repeat' (first|((first|refine wA4 ?_)<;>(try refine NX ?_))|refine wT4 ?_|with_reducible intro Q' hQ'|(refine GC ?_;refine ⟨fun hc=>?_,fun hc=>?_⟩)|simp only [la])
    ·exfalso;simp [hw1] at *
    ·simp only [hw,hr];refine ⟨(i + 1,u + 1,v + 1),by (dsimp only;omega),by (dsimp only;omega),?_⟩;dsimp only;rw [putS_take x n i hlt,List.map_append,List.map_cons,List.map_nil];exact Gh.W
  ·exfalso;simp at *;omega
 ·obtain rfl:i=n:=by omega
  rw [List.take_of_length_le (by omega)]
  repeat' (first|((first|refine wA4 ?_)<;>(try refine NX ?_))|refine wT4 ?_|with_reducible intro Q' hQ'|(refine GC ?_;refine ⟨fun hc=>?_,fun hc=>?_⟩)|simp only [la])
  all_goals first
   | (exfalso;simp at *;done)
   | (exfalso;simp at *;omega)
   | (refine RetQ.B [] ?_;(try dsimp only [resV,List.getD_cons_succ,List.getD_cons_zero]);(exact ⟨rfl,rfl⟩))
theorem cat_ac (a b:List UInt8) (ha:a.length≤100000000) (hb:b.length≤100000000) :
 AC Tryz.prog 57 [bs none a,bs none b] [] (fun v bs'=>v=bs (some tU) (a ++ b)∧bs'=[]):=by
 refine AC.N Tryz.func57 Tryz.ntmps57 ?_;intro X hρ hmks;refine NX ?_
 repeat' (first|((first|refine wA4 ?_)<;>(try refine NX ?_))|refine wT4 ?_|with_reducible intro Q' hQ'|(refine GC ?_;refine ⟨fun hc=>?_,fun hc=>?_⟩)|simp only [la])
 (refine RetQ.B [] ?_;(try dsimp only [resV,List.getD_cons_succ,List.getD_cons_zero]);(exact ⟨by simp,rfl⟩))
theorem copy_ac (a:List UInt8) (ha:a.length≤100000000) :
 AC Tryz.prog 26 [bs none a] [] (fun v bs'=>v=bs (some tU) a∧bs'=[]):=by
 refine AC.N Tryz.func26 Tryz.ntmps26 ?_;intro X hρ hmks;refine NX ?_
 repeat' (first|((first|refine wA4 ?_|refine aC1 (cat_ac a [] ha (by simp)) ?_)<;>(try refine NX ?_))|refine wT4 ?_|with_reducible intro Q' hQ'|(refine GC ?_;refine ⟨fun hc=>?_,fun hc=>?_⟩)|simp only [la])
 (refine RetQ.B [] ?_;(try dsimp only [resV,List.getD_cons_succ,List.getD_cons_zero]);(exact ⟨by simp,rfl⟩))
theorem wA8 {G G':Prop} (K:G') (h:G'→G:=by (intro kz;(with_reducible apply AP.k_any);first|exact AP.S kz|(refine AP.Y ?_;dsimp only;exact kz)|exact AP.A kz|exact AP.AB 0 kz|exact AP.AB 1 kz|exact AP.AL kz|exact AP.LB kz|exact AP.TB kz|exact AP.IX kz|exact AP.SF kz|exact AP.SV kz|exact AP.CV kz|exact AP.CO kz)):G:=h K
theorem dloadAt_ac (b:List UInt8) (p n:Nat) (hn:n≤8) (hb:p + n≤b.length) (hl:b.length≤100000000):AC Tryz.prog 182 [bs none b,I p,I n] [] (fun v bs'=>v=.tu [.sc (.int .u64 (beN ((b.drop p).take n):Int)),B true]∧bs'=[]):=by
 have hw0:IntKind.i64.wrap ((b.length:Int) - p)=((b.length - p:Nat):Int):=by rw [wrap_i64 (by omega) (by omega)];omega
 have hw1:IntKind.i64.wrap ((p:Int) + (n:Int))=((p + n:Nat):Int):=by rw [wrap_i64 (by omega) (by omega)];omega
 have d0:decide ((p:Int) < 0)=false:=by simp
 have d1:decide ((b.length:Int) < (p:Int))=false:=by simp;omega
 have d2:decide (((b.length - p:Nat):Int) < (n:Int))=false:=by simp;omega
 refine AC.N Tryz.func182 Tryz.ntmps182 ?_;intro X hρ hmks;refine NX ?_
 repeat' (first|((first|refine wA8 ?_|((with_reducible apply AP.k_any);first|refine AP.E ?_)|(refine GA ?_;refine ⟨fun hg=>?_,fun hg=>?_⟩)|refine wA2 ?_)<;>(try simp only [hw0,hw1,d0,d1,d2,nx,q4,rn,fq,Nat.mul_one,Bool.and_true,Bool.and_false,Nat.reduceBEq,Nat.reduceAdd,Nat.reduceSub,BEq.rfl]))|refine wT4 ?_|with_reducible intro Q' hQ'|(refine GC ?_;refine ⟨fun hc=>?_,fun hc=>?_⟩)|simp only [la])
 refine cp_loopS [8,9,27,28,29,30,31,32,33,34,35,36,37,38,39,40,41] (fun k:Nat=>n - k) (fun k=>k≤n) (fun k=>[(9,I ((p + k:Nat):Int)),(8,.sc (.int .u64 (beN ((b.drop p).take k):Int)))]) (fun _=>[]) 0 (Nat.zero_le _) (by exact Gh.W) ?_;intro k hk;simp only [setT,deT,setB,List.set_cons_succ,List.set_cons_zero]
 by_cases hlt:k < n
 ·have hw:IntKind.i64.wrap (((p + k:Nat):Int) + 1)=((p + (k + 1):Nat):Int):=wrap_i64 (by omega) (by omega);have hb1:=beN_lt ((b.drop p).take k);have hb2:256 ^ ((b.drop p).take k).length≤256 ^ 7:=Nat.pow_le_pow_right (by omega) (by simp;omega);have hkb:k < (b.drop p).length:=by simp;omega
  have hsn:beN ((b.drop p).take (k + 1))=256 * beN ((b.drop p).take k) + (b.drop p)[k].toNat:=by rw [List.take_succ_eq_append_getElem hkb,beN_snoc]
  have hcl:=(b.drop p)[k].toNat_lt
  have hat:(b.map eB)[p + k]? = some (eB (b.drop p)[k]):=by
   rw [List.getElem?_map,List.getElem_drop,List.getElem?_eq_getElem (by omega)];rfl
  have hm:IntKind.u64.wrap (IntKind.u64.wrap (256 * (beN ((b.drop p).take k):Int)) + IntKind.u64.wrap ((b.drop p)[k].toNat:Int))=((beN ((b.drop p).take (k + 1)):Nat):Int):=by
   rw [hsn];generalize beN ((b.drop p).take k)=x at hb1 hb2;generalize (b.drop p)[k].toNat=y at hcl;simp [IntKind.wrap,IntKind.bits,IntKind.signed];omega
  have d3:decide (((p + k:Nat):Int) < ((p + n:Nat):Int))=true:=by simp;omega
  generalize (b.drop p)[k]=c at *
  repeat' (first|((first|refine wA8 ?_|((with_reducible apply AP.k_any);first|refine AP.E ?_)|(refine GA ?_;refine ⟨fun hg=>?_,fun hg=>?_⟩)|refine wA2 ?_)<;>(try simp only [hw0,hw1,d3,nx,q4,rn,fq,Nat.mul_one,Bool.and_true,Bool.and_false,Nat.reduceBEq,Nat.reduceAdd,Nat.reduceSub,BEq.rfl]))|refine wT4 ?_|with_reducible intro Q' hQ'|(refine GC ?_;refine ⟨fun hc=>?_,fun hc=>?_⟩)|simp only [la])
  simp only [hw,hm];exact ⟨k + 1,by omega,by omega,by exact Gh.W⟩
 ·obtain rfl:k=n:=by omega
  have d3:decide (((p + k:Nat):Int) < ((p + k:Nat):Int))=false:=by simp
  repeat' (first|((first|refine wA8 ?_|((with_reducible apply AP.k_any);first|refine AP.E ?_)|(refine GA ?_;refine ⟨fun hg=>?_,fun hg=>?_⟩)|refine wA2 ?_)<;>(try simp only [hw0,hw1,d3,nx,q4,rn,fq,Nat.mul_one,Bool.and_true,Bool.and_false,Nat.reduceBEq,Nat.reduceAdd,Nat.reduceSub,BEq.rfl]))|refine wT4 ?_|with_reducible intro Q' hQ'|(refine GC ?_;refine ⟨fun hc=>?_,fun hc=>?_⟩)|simp only [la])
  (exact RetQ.A [] (by exact ⟨rfl,rfl⟩))
abbrev tQ:TypeId:=177
abbrev eQ (x:UInt32):List AV:=[Q4 x]
theorem ro_Q (l:List UInt32):roE (l.map eQ)=l.map eQ:=by rw [roE_map];rfl
theorem w32_shrN (x:UInt32) (a:Nat):Int.fdiv (x.toNat:Int) (2 ^ (min a IntKind.u32.bits))=((shrI x (a:Int)).toNat:Int):=w32_shr x a
theorem wD5 {G G':Prop} (K:G') (h:G'→G:=by (intro kz;(with_reducible apply DW.k_any);first|exact DW.R kz|exact DW.R' kz|exact DW.W kz|exact DW.W' kz|exact DW.RA kz|exact DW.A 0 kz|exact DW.A 1 kz|exact DW.A 2 kz|exact DW.RX kz|exact DW.WX kz|exact DW.WX' kz|exact DW.R kz|exact DW.R' kz|exact DW.W kz|exact DW.W' kz)):G:=h K
theorem wT5 {G G':Prop} (K:G') (h:G'→G:=by (intro kz;first|((with_reducible apply AP.k_nil);first|exact AP.nil (hQ' _ kz)|exact AP.nil kz)|((with_reducible apply CP.k_drw);exact cp_drwX kz)|((with_reducible apply CP.k_drw1);exact cp_drawX kz)|((with_reducible apply DW.k_nil);refine DW.nl ?_;first|exact hQ' _ kz|exact kz)|((with_reducible apply CP.k_reg);exact cp_regG kz)|exact CP.W kz)):G:=h K
theorem dturns_ac (x:UInt32) (a b c:Nat) (ha:1≤a∧a≤31) (hb:1≤b∧b≤31) (hc:1≤c∧c≤31):AC Tryz.prog 235 [Q4 x,I a,I b,I c] [] (fun v bs'=>v=Q4 (tnS x a b c)∧bs'=[]):=by
 have wa:IntKind.i64.wrap (32 - (a:Int))=32 - (a:Int):=wrap_i64 (by omega) (by omega);have wb:IntKind.i64.wrap (32 - (b:Int))=32 - (b:Int):=wrap_i64 (by omega) (by omega);have wc:IntKind.i64.wrap (32 - (c:Int))=32 - (c:Int):=wrap_i64 (by omega) (by omega);refine AC.N Tryz.func235 Tryz.ntmps235 ?_;intro X hρ hmks;refine NX ?_
 repeat' (first|((first|refine wA7 ?_|refine wA2 ?_|refine wD5 ?_)<;>(try simp only [wa,wb,wc,w32_shrN,nx,q4,rn,fq,Nat.mul_one,Bool.and_true,Bool.and_false,Nat.reduceBEq,Nat.reduceAdd,Nat.reduceSub,BEq.rfl]))|refine wT5 ?_|with_reducible intro Q' hQ'|(refine GC ?_;refine ⟨fun hc=>?_,fun hc=>?_⟩)|simp only [la])
 (exact RetQ.A [] (by exact ⟨rfl,rfl⟩))
theorem dconstants_ac:AC Tryz.prog 232 [] [] (fun v bs'=>v=.sl (some tQ) 1 (K32.map eQ)∧bs'=[]):=by
 refine AC.N Tryz.func232 Tryz.ntmps232 ?_;intro X hρ hmks;refine NX ?_;refine CP.gh gh_slot ?_;refine NX ?_
 repeat' (first|((first|refine wA7 ?_|refine wA2 ?_)<;>(try simp only [nx,q4,rn,fq,Nat.mul_one,Bool.and_true,Bool.and_false,Nat.reduceBEq,Nat.reduceAdd,Nat.reduceSub,BEq.rfl]))|refine wT4 ?_|with_reducible intro Q' hQ'|(refine GC ?_;refine ⟨fun hc=>?_,fun hc=>?_⟩)|simp only [la])
 (exact RetQ.A [] (by exact ⟨rfl,rfl⟩))
theorem be4_at (b:List UInt8) (p:Nat) (h:p + 4≤b.length):be4 b (p:Int)=UInt32.ofNat (beN ((b.drop p).take 4)):=by
 have:¬ ((p:Int) < 0∨(b.length:Int) - (4:Nat) < p):=by omega
 rw [be4,loadS,if_neg this];rfl
theorem wQ_at (b:List UInt8) {n i:Nat} (h:i < n):((wS b n).map eQ)[i]? = some (eQ ((wS b n).getD i 0)):=by
 have:=wS_len b n;rw [List.getElem?_map,List.getD_eq_getElem?_getD,List.getElem?_eq_getElem (by omega)];rfl
theorem wQ_len (b:List UInt8) (n:Nat):((wS b n).map eQ).length=n:=by simp [wS_len]
theorem wQ_snoc (b:List UInt8) (n:Nat):(wS b n).map eQ ++ [[Q4 (wX b (wS b n) n)]]=(wS b (n + 1)).map eQ:=by simp [wS]
theorem sm_17 (x:UInt32):(shrI x 17 ||| shlI x 15) ^^^ (shrI x 19 ||| shlI x 13) ^^^ shrI x 10=smS x 17 19 10:=rfl
theorem sm_7 (x:UInt32):(shrI x 7 ||| shlI x 25) ^^^ (shrI x 18 ||| shlI x 14) ^^^ shrI x 3=smS x 7 18 3:=rfl
theorem schedule_ac (b:List UInt8) (hb:b.length=64):AC Tryz.prog 234 [bs none b] [] (fun v bs'=>v=.sl (some tQ) 1 ((wS b 64).map eQ)∧bs'=[]):=by
 refine AC.N Tryz.func234 Tryz.ntmps234 ?_;intro X hρ hmks;refine NX ?_
 repeat' (first|((first|refine wA7 ?_|((with_reducible apply AP.k_any);first|refine AP.E ?_)|refine wA2 ?_|refine wD5 ?_)<;>(try simp only [nx,q4,rn,fq,Nat.mul_one,Bool.and_true,Bool.and_false,Nat.reduceBEq,Nat.reduceAdd,Nat.reduceSub,BEq.rfl]))|refine wT5 ?_|with_reducible intro Q' hQ'|(refine GC ?_;refine ⟨fun hc=>?_,fun hc=>?_⟩)|simp only [la])
 refine CP.gh (gh_nil (t:=3) (e:=tQ) (k:=1) rfl) ?_;refine NX ?_;refine CP.gh gh_slot ?_;refine NX ?_;refine cp_loopS [3,4,5,6,12,13,14,15,16,17,18,19,20,21,22,23,24,25,26,27] (fun a:Nat×Nat×Nat=>16 - a.1) (fun a=>a.1≤16) (fun a=>[(4,I a.1),(3,.hd 0 a.2.1)]) (fun a=>[(0,⟨a.2.1,.r tQ 1 ((wS b a.1).map eQ)⟩),(1,⟨a.2.2,.x⟩)]) (0,1,0) (Nat.zero_le _) (by exact Gh.W) ?_;rintro ⟨i,u,v⟩ hi;simp only [setT,deT,setB,List.set_cons_succ,List.set_cons_zero];dsimp only at hi
 by_cases hlt:i < 16
 ·have hw:IntKind.i64.wrap ((i:Int) + 1)=((i + 1:Nat):Int):=wrap_i64 (by omega) (by omega);have hw4:IntKind.i64.wrap (4 * (i:Int))=((4 * i:Nat):Int):=wrap_i64 (by omega) (by omega);have d16:decide ((i:Int) < 16)=true:=by simp;omega
  have hlen:=wQ_len b i
  have hx:wX b (wS b i) i=UInt32.ofNat (beN ((b.drop (4 * i)).take 4)):=by
   rw [wX,if_pos hlt,←be4_at b (4 * i) (by omega)];congr 1
  have hsn:=wQ_snoc b i;rw [hx] at hsn;have h1:=dloadAt_ac b (4 * i) 4 (by omega) (by omega) (by omega);generalize (wS b i).map eQ=W at *;generalize beN ((b.drop (4 * i)).take 4)=y at *;have hlen2:W.length + 1≤1000000000:=by omega
  repeat' (first|((first|refine wA7 ?_|((with_reducible apply AP.k_any);first|refine AP.E ?_)|refine wA2 ?_|refine wD5 ?_)<;>(try simp only [hw4,d16,w32_of,nx,q4,rn,fq,Nat.mul_one,Bool.and_true,Bool.and_false,Nat.reduceBEq,Nat.reduceAdd,Nat.reduceSub,BEq.rfl]))|refine wT5 ?_|with_reducible intro Q' hQ'|(refine GC ?_;refine ⟨fun hc=>?_,fun hc=>?_⟩)|simp only [la])
  simp only [hw];refine ⟨(i + 1,u + 1,v + 1),by (dsimp only;omega),by (dsimp only;omega),?_⟩;dsimp only;rw [←hsn];exact Gh.W
 ·obtain rfl:i=16:=by omega
  have d16:decide (((16:Nat):Int) < 16)=false:=by simp
  repeat' (first|((first|refine wA7 ?_|((with_reducible apply AP.k_any);first|refine AP.E ?_)|refine wA2 ?_|refine wD5 ?_)<;>(try simp only [d16,nx,q4,rn,fq,Nat.mul_one,Bool.and_true,Bool.and_false,Nat.reduceBEq,Nat.reduceAdd,Nat.reduceSub,BEq.rfl]))|refine wT5 ?_|with_reducible intro Q' hQ'|(refine GC ?_;refine ⟨fun hc=>?_,fun hc=>?_⟩)|simp only [la])
  refine cp_loopS [3,7,8,9,10,11,28,29,30,31,32,33,34,35,36,37,38,39,40,41,42,43,44,45,46,47,48,49,50,51,52,53,54,55,56,57,58,59,60,61,62,63,64,65,66,67,68,69,70,71,72,73,74,75,76,77,78,79,80,81,82,83,84,85,86,87] (fun a:Nat×Nat×Nat=>64 - a.1) (fun a=>16≤a.1∧a.1≤64) (fun a=>[(7,I a.1),(3,.hd 0 a.2.1)]) (fun a=>[(0,⟨a.2.1,.r tQ 1 ((wS b a.1).map eQ)⟩),(1,⟨a.2.2,.x⟩)]) (16,u,v) ⟨Nat.le_refl _,by omega⟩ (by exact Gh.W) ?_;rintro ⟨i,u,v⟩ ⟨hi1,hi⟩;simp only [setT,deT,setB,List.set_cons_succ,List.set_cons_zero];dsimp only at hi hi1
  by_cases hlt:i < 64
  ·have hw:IntKind.i64.wrap ((i:Int) + 1)=((i + 1:Nat):Int):=wrap_i64 (by omega) (by omega);have d64:decide ((i:Int) < 64)=true:=by simp;omega
   have hx:wX b (wS b i) i=smS ((wS b i).getD (i - 2) 0) 17 19 10 + (wS b i).getD (i - 7) 0 + smS ((wS b i).getD (i - 15) 0) 7 18 3 + (wS b i).getD (i - 16) 0:=if_neg (by omega);have w2:IntKind.i64.wrap ((i:Int) - 2)=((i - 2:Nat):Int):=by rw [wrap_i64 (by omega) (by omega)];omega
   have w7:IntKind.i64.wrap ((i:Int) - 7)=((i - 7:Nat):Int):=by rw [wrap_i64 (by omega) (by omega)];omega
   have w15:IntKind.i64.wrap ((i:Int) - 15)=((i - 15:Nat):Int):=by rw [wrap_i64 (by omega) (by omega)];omega
   have w16:IntKind.i64.wrap ((i:Int) - 16)=((i - 16:Nat):Int):=by rw [wrap_i64 (by omega) (by omega)];omega
   have g2:=wQ_at b (n:=i) (i:=i - 2) (by omega);have g7:=wQ_at b (n:=i) (i:=i - 7) (by omega);have g15:=wQ_at b (n:=i) (i:=i - 15) (by omega);have g16:=wQ_at b (n:=i) (i:=i - 16) (by omega);have hlen:=wQ_len b i;have hsn:=wQ_snoc b i;rw [hx] at hsn;generalize (wS b i).getD (i - 2) 0=x2 at *;generalize (wS b i).getD (i - 7) 0=x7 at *;generalize (wS b i).getD (i - 15) 0=x15 at *;generalize (wS b i).getD (i - 16) 0=x16 at *;generalize (wS b i).map eQ=W at *;have hlen2:W.length + 1≤1000000000:=by omega
   repeat' (first|((first|refine wA7 ?_|((with_reducible apply AP.k_any);first|refine AP.E ?_)|refine wA2 ?_|refine wD5 ?_)<;>(try simp only [w2,w7,w15,w16,d64,w32_shrN,sm_17,sm_7,nx,q4,rn,fq,Nat.mul_one,Bool.and_true,Bool.and_false,Nat.reduceBEq,Nat.reduceAdd,Nat.reduceSub,BEq.rfl]))|refine wT5 ?_|with_reducible intro Q' hQ'|(refine GC ?_;refine ⟨fun hc=>?_,fun hc=>?_⟩)|simp only [la])
   simp only [hw];refine ⟨(i + 1,u + 1,v + 1),by (dsimp only;omega),by (dsimp only;omega),?_⟩;dsimp only;rw [←hsn];exact Gh.W
  ·obtain rfl:i=64:=by omega
   have d64:decide (((64:Nat):Int) < 64)=false:=by simp
   generalize (wS b 64).map eQ=W at *
   repeat' (first|((first|refine wA7 ?_|((with_reducible apply AP.k_any);first|refine AP.E ?_)|refine wA2 ?_|refine wD5 ?_)<;>(try simp only [d64,nx,q4,rn,fq,Nat.mul_one,Bool.and_true,Bool.and_false,Nat.reduceBEq,Nat.reduceAdd,Nat.reduceSub,BEq.rfl]))|refine wT5 ?_|with_reducible intro Q' hQ'|(refine GC ?_;refine ⟨fun hc=>?_,fun hc=>?_⟩)|simp only [la])
   (refine RetQ.B [] ?_;(try dsimp only [resV,List.getD_cons_succ,List.getD_cons_zero]);(exact ⟨rfl,rfl⟩))
theorem dC1 {p G G':Prop} (c:p) (K:G') (h:p→G'→G:=by (intro c kz;(with_reducible apply DW.k_any);refine DW.known rfl ?_;(with_reducible first|apply DW.sx 2);(iterate 2 (focus (simp only [ft,nm,Nat.reduceAdd,Nat.reduceBEq,List.getElem?_cons_zero,List.getElem?_cons_succ];exact rfl)));(focus (intro X V;simp only [ft,nm,Nat.reduceAdd,Nat.reduceBEq];(try (refine AP.Y ?_;dsimp only));((with_reducible apply AP.k_any);refine AP.C c ?_);(try refine NX ?_);refine AP.nil ?_;(first|refine ⟨trivial,rfl,?_⟩|refine ⟨rfl,rfl,?_⟩);(repeat' (first|exact Mg.nil|apply Mg.keep rfl|apply Mg.take rfl));done));(focus (refine Exists.intro (fun _=>0) ?_;apply Exists.intro;(repeat' (first|exact Mg.nil|apply Mg.keep rfl|apply Mg.take rfl));done));(iterate 2 (focus (exact rfl)));exact kz)):G:=h c K
theorem block_ac (n:S8) (b:List UInt8) (hb:b.length≤100000000):AC Tryz.prog 231 [.ag (e8 n),bs none b] [] (fun v bs'=>v=.ag (e8 (blockS n b))∧bs'=[]):=by
 have hk:=constants_ac;refine AC.N Tryz.func231 Tryz.ntmps231 ?_;intro X hρ hmks;refine NX ?_
 repeat' (first|((first|refine wA7 ?_|((with_reducible apply AP.k_any);first|refine AP.E ?_|refine AP.T ?_)|refine wA2 ?_|refine wD5 ?_)<;>(try simp only [nx,q4,rn,fq,Nat.mul_one,Bool.and_true,Bool.and_false,Nat.reduceBEq,Nat.reduceAdd,Nat.reduceSub,BEq.rfl]))|refine wT5 ?_|with_reducible intro Q' hQ'|(refine GC ?_;refine ⟨fun hc=>?_,fun hc=>?_⟩)|simp only [la])
 refine cp_loopS [6,15,16,17,18,19,20,21,22,23,24,25,26,27,28,29,30,31,32,33,34,35,36,37,38,39,40,41,42,43,44,45,46,47,48,49,50,51,52] (fun a:Nat=>64 - a) (fun a=>a≤64) (fun a=>[(15,I a)]) (fun a=>[(2,⟨1,.c 296 (scB b a)⟩)]) 0 (Nat.zero_le _) (by exact Gh.W) ?_;intro i hi;simp only [setT,deT,setB,List.set_cons_succ,List.set_cons_zero]
 by_cases hlt:i < 64
 ·have hw:IntKind.i64.wrap ((i:Int) + 1)=((i + 1:Nat):Int):=wrap_i64 (by omega) (by omega);have d64:decide ((i:Int) < 64)=true:=by simp;omega
  have hlen:=scB_len b i hi;have hset:=scB_set b hlt
  by_cases h16:i < 16
  ·have d16:decide ((i:Int) < 16)=true:=by simp;omega
   have hx:wX b (wS b i) i=be4 b (4 * i):=if_pos h16;rw [hx] at hset;have hw4:IntKind.i64.wrap (4 * (i:Int))=4 * (i:Int):=wrap_i64 (by omega) (by omega);have hl:=load32_ac b (4 * i) hb (by omega) (by omega)
   repeat' (first|((first|refine wA7 ?_|((with_reducible apply AP.k_any);first|refine AP.E ?_|refine AP.T ?_)|refine wA2 ?_|refine wD5 ?_)<;>(try simp only [hw4,d64,d16,nx,q4,rn,fq,Nat.mul_one,Bool.and_true,Bool.and_false,Nat.reduceBEq,Nat.reduceAdd,Nat.reduceSub,BEq.rfl]))|refine wT5 ?_|with_reducible intro Q' hQ'|(refine GC ?_;refine ⟨fun hc=>?_,fun hc=>?_⟩)|simp only [la])
   simp only [hw,Nat.mul_one,Nat.zero_add,Int.toNat_natCast];exact ⟨i + 1,by omega,by omega,by (rw [←hset];exact Gh.W)⟩
  ·have d16:decide ((i:Int) < 16)=false:=by simp;omega
   have hx:wX b (wS b i) i=smS ((wS b i).getD (i - 2) 0) 17 19 10 + (wS b i).getD (i - 7) 0 + smS ((wS b i).getD (i - 15) 0) 7 18 3 + (wS b i).getD (i - 16) 0:=if_neg h16;rw [hx] at hset;have w2:IntKind.i64.wrap ((i:Int) - 2)=((i - 2:Nat):Int):=by rw [wrap_i64 (by omega) (by omega)];omega
   have w7:IntKind.i64.wrap ((i:Int) - 7)=((i - 7:Nat):Int):=by rw [wrap_i64 (by omega) (by omega)];omega
   have w15:IntKind.i64.wrap ((i:Int) - 15)=((i - 15:Nat):Int):=by rw [wrap_i64 (by omega) (by omega)];omega
   have w16:IntKind.i64.wrap ((i:Int) - 16)=((i - 16:Nat):Int):=by rw [wrap_i64 (by omega) (by omega)];omega
   have g2:=scB_at b (n:=i) (i:=i - 2) (by omega);have g7:=scB_at b (n:=i) (i:=i - 7) (by omega);have g15:=scB_at b (n:=i) (i:=i - 15) (by omega);have g16:=scB_at b (n:=i) (i:=i - 16) (by omega);generalize (wS b i).getD (i - 2) 0=x2 at *;generalize (wS b i).getD (i - 7) 0=x7 at *;generalize (wS b i).getD (i - 15) 0=x15 at *;generalize (wS b i).getD (i - 16) 0=x16 at *;have h1:=small_ac x2 17 19 10 (by omega) (by omega) (by omega);have h2:=small_ac x15 7 18 3 (by omega) (by omega) (by omega)
   repeat' (first|((first|refine wA7 ?_|((with_reducible apply AP.k_any);first|refine AP.E ?_|refine AP.T ?_)|refine aC1 h1 ?_|refine aC1 h2 ?_|refine wA2 ?_|refine wD5 ?_|refine dC1 h1 ?_|refine dC1 h2 ?_)<;>(try simp only [w2,w7,w15,w16,d64,d16,nx,q4,rn,fq,Nat.mul_one,Bool.and_true,Bool.and_false,Nat.reduceBEq,Nat.reduceAdd,Nat.reduceSub,BEq.rfl]))|refine wT5 ?_|with_reducible intro Q' hQ'|(refine GC ?_;refine ⟨fun hc=>?_,fun hc=>?_⟩)|simp only [la])
   simp only [hw];exact ⟨i + 1,by omega,by omega,by (rw [←hset];exact Gh.W)⟩
 ·obtain rfl:i=64:=by omega
  have hgw:∀ i,i < 64→(scB b 64)[i]? = some (Q4 ((wS b 64).getD i 0)):=fun i h=>scB_at b h
  have hl64:=scB_len b 64 (Nat.le_refl _);generalize scB b 64=W at *
  repeat' (first|((first|refine wA7 ?_|((with_reducible apply AP.k_any);first|refine AP.E ?_|refine AP.T ?_)|refine wA2 ?_|refine wD5 ?_)<;>(try simp only [oc_Q4,nx,q4,rn,fq,Nat.mul_one,Bool.and_true,Bool.and_false,Nat.reduceBEq,Nat.reduceAdd,Nat.reduceSub,BEq.rfl]))|refine wT5 ?_|with_reducible intro Q' hQ'|(refine GC ?_;refine ⟨fun hc=>?_,fun hc=>?_⟩)|simp only [la])
  have hgk:∀ i,i < 64→(K32.map Q4)[i]? = some (Q4 (K32.getD i 0)):=fun i h=>K32_at h
  generalize K32.map Q4=KK at *;refine cp_loopS [8,9,10,11,12,13,55,56,57,58,59,60,61,62,63,64,65,66,67,68,69,70,71,72,73,74,75,76,77,78,79,80,81,82,83,84,85,86,87,88,89,90,91,92,93,94,95,96,97,98,99,100,101,102,103,104,105,106,107,108,109,110,111,112,113,114,115] (fun a:Nat=>64 - a) (fun a=>a≤64) (fun a=>[(55,I a)]) (fun a=>[(3,⟨1,.c 278 (e8 (rS n b a))⟩)]) 0 (Nat.zero_le _) (by exact Gh.W) ?_;clear hk hlt hi;intro i hi;simp only [setT,deT,setB,List.set_cons_succ,List.set_cons_zero]
  by_cases hlt:i < 64
  ·have hw:IntKind.i64.wrap ((i:Int) + 1)=((i + 1:Nat):Int):=wrap_i64 (by omega) (by omega);have d64:decide ((i:Int) < 64)=true:=by simp;omega
   have hr:rS n b (i + 1)=rnd (rS n b i) (K32.getD i 0) ((wS b 64).getD i 0):=rfl;have gk:=hgk i hlt;have gw:=hgw i hlt;generalize rS n b i=s at *;generalize K32.getD i 0=k at *;generalize (wS b 64).getD i 0=w at *;have h1:=turned_ac s.e 6 11 25 (by omega) (by omega) (by omega);have h2:=turned_ac s.a 2 13 22 (by omega) (by omega) (by omega)
   repeat' (first|((first|refine wA7 ?_|((with_reducible apply AP.k_any);first|refine AP.E ?_|refine AP.T ?_)|refine aC1 h1 ?_|refine aC1 h2 ?_|refine wA2 ?_|refine wD5 ?_|refine dC1 h1 ?_|refine dC1 h2 ?_)<;>(try simp only [d64,cpy,Int.reduceToNat,Nat.reduceMul,Nat.zero_add,Nat.min_self,List.take_succ_cons,List.take_zero,List.drop_succ_cons,List.drop_zero,List.cons_append,List.nil_append,List.append_nil,List.length_cons,List.length_nil,nx,q4,rn,fq,Nat.mul_one,Bool.and_true,Bool.and_false,Nat.reduceBEq,Nat.reduceAdd,Nat.reduceSub,BEq.rfl]))|refine wT5 ?_|with_reducible intro Q' hQ'|(refine GC ?_;refine ⟨fun hc=>?_,fun hc=>?_⟩)|simp only [la])
   simp only [hw];exact ⟨i + 1,by omega,by omega,by (rw [hr];exact Gh.W)⟩
  ·obtain rfl:i=64:=by omega
   have hbl:blockS n b=⟨n.a + (rS n b 64).a,n.b + (rS n b 64).b,n.c + (rS n b 64).c,n.d + (rS n b 64).d,n.e + (rS n b 64).e,n.f + (rS n b 64).f,n.g + (rS n b 64).g,n.h + (rS n b 64).h⟩:=rfl;generalize rS n b 64=s at *;rw [hbl]
   repeat' (first|((first|refine wA7 ?_|((with_reducible apply AP.k_any);first|refine AP.E ?_|refine AP.T ?_)|refine wA2 ?_|refine wD5 ?_)<;>(try simp only [nx,q4,rn,fq,Nat.mul_one,Bool.and_true,Bool.and_false,Nat.reduceBEq,Nat.reduceAdd,Nat.reduceSub,BEq.rfl]))|refine wT5 ?_|with_reducible intro Q' hQ'|(refine GC ?_;refine ⟨fun hc=>?_,fun hc=>?_⟩)|simp only [la])
   refine cp_rounds 9 ?_
   repeat' (first|((first|refine wA7 ?_|((with_reducible apply AP.k_any);first|refine AP.E ?_|refine AP.T ?_)|refine wA2 ?_|refine wD5 ?_)<;>(try simp only [wrap_lit,Int.reduceAdd,Int.reduceLE,Int.reduceLT,Int.reduceNeg,Int.reduceToNat,Nat.reduceMul,decide_true,decide_false,Nat.zero_add,List.set_cons_succ,List.set_cons_zero,nx,q4,rn,fq,Nat.mul_one,Bool.and_true,Bool.and_false,Nat.reduceBEq,Nat.reduceAdd,Nat.reduceSub,BEq.rfl]))|refine wT5 ?_|with_reducible intro Q' hQ'|(refine GC ?_;refine ⟨fun hc=>?_,fun hc=>?_⟩)|simp only [la])
   (exact RetQ.A [] (by exact ⟨rfl,rfl⟩))
/-- what the other side holds outlives this side's own doings -/
def Jcl (J:Jt):Prop:=∀ (w w':World) (L L':Ct) (R R':Nat→Prop),J w L R→Fr w w' L→(∀ x,L' x≤1)→(∀ x,L' x≠0→x < w'.heap.size∧(L x≠0∨w.heap.size≤x))→(∀ x,R x→R' x) →
 (∀ x,R' x→x < w'.heap.size∧L' x=0∧(R x∨L x≠0∨w.heap.size≤x))→J w' L' R'
abbrev noφ:Fi:=fun _ _=>none
abbrev noκ:Ka:=fun _ _=>none
/-- a round: from J to J', or out of the loop, to Jx -/
def Yok (P:Program) (l:Nat) (J:Jt) (y:List AV) (J' Jx:Jt):Prop:=∀ (w:World) (L:Ct) (R:Nat→Prop) (vs:List Value),J w L R→RC w noφ noκ R y vs Ct.z →
 YieldAt Fence.wide 0 P l vs.toArray w fun e w'=>∃ b:Bool,e=.returned (.bool b)∧(match b with|true=>J'|false=>Jx) w' L R∧w.heap.size≤w'.heap.size∧∀ x,x < w.heap.size→L x≠0∨R x→w'.heap[x]? = w.heap[x]?
/-- what an iteration hands over, one behind the other -/
def IC (P:Program) (g:Nat) (cap:List AV) (bs:List Bx) (ys:List (List AV)):Prop:=
 (∀ (xs:Array Value) (w:World),(callFunc g xs).run P w=.ok (.enter g xs) w) ∧
 ∀ (l:Nat) (J:Nat→Jt) (Jx:Jt),(∀ i,Jcl (J i))→Jcl Jx→(∀ (i:Nat) (y:List AV),ys[i]? = some y→Yok P l (J i) y (J (i + 1)) Jx) →
 ∀ (w:World) (φ:Fi) (κ:Ka) (R:Nat→Prop) (vs:List Value) (gs:List Nat) (Sa Sb:Ct),
  RC w φ κ R cap vs Sa→RXs w R bs gs Sb→(∀ (i g:Nat) (B:Bx),gs[i]? = some g→bs[i]? = some B→Hk φ κ i 0 B g)→(∀ (i v:Nat),(bs.length≤i∨0 < v)→φ i v=none)→(∀ (i v:Nat),(bs.length≤i∨0 < v)→κ i v=none) →
  (∀ x,Sa x + Sb x≤1)→(∀ x,Sa x + Sb x≠0→x < w.heap.size)→(∀ x,R x→x < w.heap.size∧Sa x + Sb x=0)→J 0 w (fun x=>Sa x + Sb x) R →
  Calls P g (.func (.yield l) #[] #[] :: vs).toArray w fun e w'=>∃ v L' R',e=.returned v∧(J ys.length w' L' R'∨Jx w' L' R')
/-! what is handed to a round reads alone -/
def AV.fre:AV→Bool
 | .ag l=>l.all AV.leaf
 | a=>a.leaf
inductive Yv:AV→AV→Prop
 | same {a}:a.fre=true→Yv a a
 | nl {o k}:Yv (.sc (.slice none 0 0)) (.sl o k [])
 | fs {k s}:Yv (.fs k s) (.sl none k s)
inductive YvL:List AV→List AV→Prop
 | nil:YvL [] []
 | cons {a a' l l'}:Yv a a'→YvL l l'→YvL (a :: l) (a' :: l')
section
variable {w:World} {φ:Fi} {κ:Ka} {R:Nat→Prop}
theorem Yv.rv:∀ {a a':AV},Yv a a'→∀ {v:Value},RV w φ κ R a v Ct.z→RV w noφ noκ R a' v Ct.z
 | _,_,.same (a:=a) h,v,hr=>by
  by_cases hag:∃ l,a=.ag l
  ·obtain ⟨l,rfl⟩:=hag
   cases hr with
   | ag h1 h2=>exact .ag (RC.any _ _ h1 fun x hx=>List.all_eq_true.1 h x hx) h2
  ·refine RV.any _ _ hr ?_
   cases a<;>first|exact h|exact absurd ⟨_,rfl⟩ hag
 | _,_,.nl,v,hr=>by cases hr;exact .ni
 | _,_,.fs,v,hr=>by
  generalize hz:Ct.z=Z at hr ⊢
  cases hr with
  | fs h1 _=>exact RV.any _ _ h1 rfl
theorem YvL.rc:∀ {l l':List AV},YvL l l'→∀ {vs:List Value},RC w φ κ R l vs Ct.z→RC w noφ noκ R l' vs Ct.z
 | _,_,.nil,_,h=>by cases h;exact .nil
 | _,_,.cons h k,_,hr=>by
  cases hr with
  | cons h1 h2 h3=>
   obtain ⟨rfl,rfl⟩:=Ct.split h3;exact .cons (S:=Ct.z) (T:=Ct.z) (h.rv h1) (k.rc h2) fun _=>rfl
end
/-- but for number k nothing of the other side -/
def ny1 (k:Nat):Nat→List Sl→Bool
 | _,[]=>true
 | n,e :: l=>(match Nat.beq n k with|true=>true|false=>!e.b.isY) && ny1 k (n + 1) l
theorem ny1_at {k:Nat}:∀ {l:List Sl} {n i u:Nat} {J:Jt},ny1 k n l=true→l[i]? = some ⟨u,.y J⟩→n + i=k
 | [],_,_,_,_,_,h=>by simp at h
 | e :: l,n,0,u,J,h,hi=>by
  simp at hi;subst hi
  simp only [ny1,Bool.and_eq_true] at h;rw [Nat.add_zero]
  cases hn:Nat.beq n k with
  | true=>exact Nat.eq_of_beq_eq_true hn
  | false=>have:=h.1;rw [hn] at this;cases this
 | e :: l,n,i + 1,u,J,h,hi=>by
  simp only [ny1,Bool.and_eq_true] at h;have:=ny1_at (i:=i) h.2 (by simpa using hi);omega
section
variable {P:Program} {X:Cx} {s:AS} {ops:Array Oper} {rest:List Oper} {o:Oper} {Q:Exit→AS→Prop}
/-- what the other side holds, here and now -/
theorem SatW.hold {φ:Fi} {κ:Ka} {f:Nat→Ct} {a:Act} {w:World} (h:SatW X φ κ f Ct.z s a w) {k u:Nat} {J:Jt} (hk:s.b[k]? = some ⟨u,.y J⟩) (hcl:Jcl J):J w (sumF f s.b.length) X.R:=by
 obtain ⟨R0,h1,h2,h3⟩:=h.df.yd k u J hk;refine hcl _ _ _ _ _ _ h1 h.fr (fun x=>by have:=h.one x;simp only [Ct.z] at this;omega) (fun x hx=>h.own x (by simp only [Ct.z];omega)) h2 fun x hx=>?_
 have:=h.rd x hx;simp only [Ct.z] at this;exact ⟨this.1,by omega,h3 x hx⟩
/-- ONE IS HANDED OVER: a round of the other side -/
theorem ap_yield {l k u:Nat} {J J' Jx:Jt} {y:List AV} {fo:Operand} {xs:Array Operand} {tys:Array TypeId} (hg:o.guard=none) (ho:o.op=.call { callee:=.value fo,args:=xs,argTypes:=tys }) (hfo:aev s fo=.sc (.func (.yield l) #[] #[]))
 (hk:s.b[k]? = some ⟨u,.y J⟩) (hn:ny1 k 0 s.b=true) (hcl:Jcl J) (hY:Yok P l J y J' Jx) (hy:YvL (xs.toList.map (aev s)) y) (hyl:X.yl=true) (hρ:X.ρ=none)
 (K1:AP P X ops Q rest (AS.put ⟨s.t,s.b.set k ⟨u,.y J'⟩⟩ o.dst (.sc (.bool true)))) (K2:AP P X ops Q rest (AS.put ⟨s.t,s.b.set k ⟨u,.y Jx⟩⟩ o.dst (.sc (.bool false)))):AP P X ops Q (o :: rest) s:=by
 rintro a w ⟨X0,φ,κ,f,hX0,h⟩;refine wpL_plain hg fun K' hK'=>?_
 have hJ:=h.hold hk hcl;have hrc:=hy.rc (h.evl xs.toList);obtain ⟨fn,tmps,assign,body,hrun,hR⟩:=hY w _ _ _ hJ hrc;have hfv:=h.evc hfo
 have hex:(execOp a.eval o).run P w=.ok (.round l fn tmps assign body) w:=by
  have e0:(xs.toList.map a.eval).toArray=xs.map a.eval:=by cases xs;simp
  rw [e0] at hrun;simp only [execOp,ho,resolve,Deferred.ofValue,hfv,Sem.run_bind,Sem.run_pure,Result.andThen_ok,invoke,Array.empty_append];exact hrun
 have hkl:=(List.getElem?_eq_some_iff.1 hk).1;refine ⟨fun _ _=>Fw_fn _ _,?_⟩;rw [semAt_of hex (fun d=>by simp)];refine ⟨fun hd=>(by rw [Fw_depth] at hd;simp at hd),?_⟩;rw [hρ];refine hR.mono ?_;rintro e w' ⟨b,rfl,hJ',hsz,hkeep⟩;refine hK' _ _ ?_;have hR':∀ x,X0.R x→w'.heap[x]? = w.heap[x]?:=fun x hx=>hkeep x (h.rd x hx).1 (.inr hx)
 have hL':∀ i,i < s.b.length→∀ x,f i x≠0→w'.heap[x]? = w.heap[x]?:=fun i hi x hx=>by
  have h1:=sumF_le f x _ i hi;exact hkeep x (h.own x (by omega)).1 (.inl (by omega))
 have hz:f k=Ct.z:=by
  have:=h.sl k _ hk;generalize f k=S at this
  cases this;rfl
 have main:∀ JJ:Jt,JJ w' (sumF f s.b.length) X0.R→∃ X2,X.le X2∧SatW X2 φ κ f Ct.z ⟨s.t,s.b.set k ⟨u,.y JJ⟩⟩ a w':=fun JJ hJJ=>by
  refine ⟨⟨X0.R,w',sumF f s.b.length,X0.g0,X0.p0,X0.q0,X0.ρ,X0.yl,X0.dB,X0.mks⟩,hX0.trans ⟨fun e=>(by rw [hX0.yl,hyl] at e;cases e),rfl,rfl,rfl,rfl,rfl,rfl,rfl,fun _ h=>h⟩,?_⟩
  exact
   { tm:=RC.keep hR' h.tm fun x hx=>absurd rfl hx
     df:=by
      obtain ⟨d0,Ds,d1,d2,d3⟩:=h.df.df;refine ⟨⟨Nat.le_trans d0 hsz,Ds,d1,d2,fun D hD=>⟨(d3 D hD).1,(d3 D hD).2.1,(hR' D (d3 D hD).2.1).trans (d3 D hD).2.2⟩⟩,fun i v J2 hi=>?_⟩
      by_cases hik:i=k
      ·subst hik;rw [List.getElem?_set_self hkl] at hi
       injection hi with hi;injection hi with _ hi;injection hi with hi;subst hi
       exact ⟨X0.R,hJJ,fun _ h=>h,fun x hx=>.inl hx⟩
      ·rw [List.getElem?_set_ne (Ne.symm hik)] at hi;have:=ny1_at hn hi;omega
     sl:=fun i e' hi=>by
      by_cases hik:i=k
      ·subst hik;rw [List.getElem?_set_self hkl] at hi
       injection hi with hi;subst hi
       rw [hz];exact .y
      ·rw [List.getElem?_set_ne (Ne.symm hik)] at hi;exact RS.keep hR' (h.sl i e' hi) (hL' i (List.getElem?_eq_some_iff.1 hi).1)
     one:=fun x=>by have:=h.one x;simpa using this
     own:=fun x hx=>by
      simp only [List.length_set] at hx;have:=h.own x hx;exact ⟨Nat.lt_of_lt_of_le this.1 hsz,.inl (by simp only [Ct.z] at hx;show sumF f s.b.length x≠0;omega)⟩
     rd:=fun x hx=>by
      have:=h.rd x hx;simp only [List.length_set];exact ⟨Nat.lt_of_lt_of_le this.1 hsz,this.2⟩
     fr:=Fr.refl _ _
     bas:=h.bas
     new:=fun i v hv=>h.new i v fun e' he=>by
      by_cases hik:i=k
      ·subst hik;rw [hk] at he;injection he with he;subst he
       exact hv ⟨u,.y JJ⟩ (List.getElem?_set_self hkl)
      ·exact hv e' (by rw [List.getElem?_set_ne (Ne.symm hik)];exact he) }
 cases b with
 | true=>
  obtain ⟨X2,hX2,h2⟩:=main J' hJ';exact K1 _ _ ⟨X2,φ,κ,f,hX2,h2.puts o.dst (.sc rfl)⟩
 | false=>
  obtain ⟨X2,hX2,h2⟩:=main Jx hJ';exact K2 _ _ ⟨X2,φ,κ,f,hX2,h2.puts o.dst (.sc rfl)⟩
end
/-- an iteration's end: all have been handed over, or the other side wants no more -/
def ItQ (n:Nat) (JJ Jx:Jt):Exit→AS→Prop:=fun e s=>(e=.normal∨e=.ret)∧∃ u J',s.b[n]? = some ⟨u,.y J'⟩∧(J'=JJ∨J'=Jx)
theorem IC.enter {g:Nat} {F:Func} {c:Code} {nt:Nat} {cap:List AV} {bs:List Bx} {ys:List (List AV)} {b1:Jt→List Sl} (hf:Tryz.prog.funcs[g]? = some F) (hb:F.body=some c) (hname:(F.name == "runtime.NumGoroutine")=false) (hnt:F.ntmps=nt) (hres:F.results.toList=[])
 (hfl:∀ x∈cap,x.fl1) (hbk:∀ J,Bk (List.replicate bs.length ⟨0,.o⟩ ++ [⟨0,.y J⟩]) ((List.range bs.length).map fun i=>(i,0)) bs (b1 J))
 (K:∀ (X:Cx) (l:Nat) (J:Nat→Jt) (Jx:Jt),X.ρ=none→X.yl=true→(∀ i,Jcl (J i))→Jcl Jx→(∀ (i:Nat) (y:List AV),ys[i]? = some y→Yok Tryz.prog l (J i) y (J (i + 1)) Jx) →
   CP Tryz.prog X c (ItQ bs.length (J ys.length) Jx) ⟨.sc (.func (.yield l) #[] #[]) :: ((opnL cap (b1 (J 0))).1 ++ List.replicate (nt - (cap.length + 1)) (.tu [])),(opnL cap (b1 (J 0))).2⟩):IC Tryz.prog g cap bs ys:=by
 refine ⟨fun xs w=>?_,?_⟩
 ·have hn:¬ (F.name= "runtime.NumGoroutine"):=by simpa using hname
  simp [callFunc,hf,hn,hb,go_sem,program,Sem.run,Sem.run_bind]
 intro l J Jx hJ hJx hY w φ κ R vs gs Sa Sb hr hrx hφ hφn hκn hone hown hR hJ0;have hgl:=hrx.length;have hvl:=hr.length;refine callsIn_wide.1 (callsIn_of_wp_marks (F:=Fence.wide) (n:=0) hf hb trivial ?_ rfl);rw [hnt];have hat:({ tmps:=(Value.func (.yield l) #[] #[] :: vs).toArray ++ Array.replicate (nt - (Value.func (.yield l) #[] #[] :: vs).toArray.size) undef,defers:=[] }:Act).tmps.toList=.func (.yield l) #[] #[] :: (vs ++ List.replicate (nt - (cap.length + 1)) undef):=by simp [hvl]
 generalize hact:({ tmps:=(Value.func (.yield l) #[] #[] :: vs).toArray ++ Array.replicate (nt - (Value.func (.yield l) #[] #[] :: vs).toArray.size) undef,defers:=[] }:Act)=a at *
 have h0:SatW ⟨R,w,fun x=>Sa x + Sb x,[],fun _ _=>none,fun _ _=>none,none,true,w.heap.size,false⟩ φ κ (fun _=>Ct.z) (fun x=>Sa x + Sb x) ⟨List.replicate a.tmps.toList.length .de,List.replicate bs.length ⟨0,.o⟩ ++ [⟨0,.y (J 0)⟩]⟩ a w:=
  { tm:=RC.des _
    df:=⟨⟨Nat.le_refl _,[],by rw [←hact];rfl,⟨List.nodup_nil,fun _=>rfl⟩,fun _ h=>by cases h⟩,fun i u JJ hi=>by
     by_cases hil:i < bs.length
     ·rw [List.getElem?_append_left (by simpa using hil),List.getElem?_replicate,if_pos hil] at hi
      cases hi
     ·have hie:i=bs.length:=by have:=(List.getElem?_eq_some_iff.1 hi).1;simp at this;omega
      subst hie;rw [List.getElem?_append_right (by simp)] at hi;simp at hi;obtain ⟨_,rfl⟩:=hi;exact ⟨R,hJ0,fun _ h=>h,fun x hx=>.inl hx⟩⟩
    sl:=fun i e he=>by
     by_cases hil:i < bs.length
     ·rw [List.getElem?_append_left (by simpa using hil),List.getElem?_replicate,if_pos hil] at he
      injection he with he;subst he;exact .o
     ·have hie:i=bs.length:=by have:=(List.getElem?_eq_some_iff.1 he).1;simp at this;omega
      subst hie;rw [List.getElem?_append_right (by simp)] at he;simp at he;subst he;exact .y
    one:=fun x=>by rw [sumF_z];have:=hone x;omega
    own:=fun x hx=>by rw [sumF_z] at hx;exact ⟨hown x (by omega),.inl (by show Sa x + Sb x≠0;omega)⟩
    rd:=fun x hx=>by rw [sumF_z];have:=hR x hx;exact ⟨this.1,by (try dsimp only);omega⟩
    fr:=Fr.refl _ _
    bas:=⟨fun _ _ h=>by simp at h,(fun _ _ _ h=>by cases h),fun _ _ _ h=>by cases h⟩
    new:=fun i v hv=>by
     have hc:bs.length≤i∨0 < v:=by
      by_cases hi:i < bs.length
      ·have:=hv ⟨0,.o⟩ (by rw [List.getElem?_append_left (by simpa using hi),List.getElem?_replicate,if_pos hi]);exact .inr this
      ·exact .inl (by omega)
     exact ⟨hφn i v hc,hκn i v hc⟩ }
 obtain ⟨φ1,κ1,f1,e1,e2,e3⟩:=SatW.bk (hbk (J 0)) (L':=Sa) h0 hrx (fun x=>by (try dsimp only);omega) (fun i k u B hi hB=>by
  simp only [List.getElem?_map,Option.map_eq_some_iff] at hi;obtain ⟨j,hj,hjk⟩:=hi;obtain ⟨hlt,he⟩:=List.getElem?_eq_some_iff.1 hj;simp at hlt he;subst he
  injection hjk with e1 e2
  subst e1 e2;have hg:gs[i]? = some (gs[i]'(by omega)):=List.getElem?_eq_getElem (by omega);exact ⟨_,hg,hφ _ _ _ hg hB⟩)
 obtain ⟨φ2,κ2,f2,e4,e5,e6,e7⟩:=e3.opnL_ (L':=Ct.z) (RC.hist e1 e2 (fun _ h=>h) hr) (fun x=>by simp [Ct.z]) hfl
 have h1:Sat ⟨R,w,fun x=>Sa x + Sb x,[],fun _ _=>none,fun _ _=>none,none,true,w.heap.size,false⟩ ⟨.sc (.func (.yield l) #[] #[]) :: ((opnL cap (b1 (J 0))).1 ++ List.replicate (nt - (cap.length + 1)) (.tu [])),(opnL cap (b1 (J 0))).2⟩ a w:=
  ⟨_,φ2,κ2,f2,.rfl,e7.retm (by rw [hat];exact .cons (S:=Ct.z) (T:=Ct.z) (.sc rfl) (e6.append (RC.und _) fun _=>rfl) fun _=>rfl) rfl⟩
 refine wpIn_mono (K _ l J Jx rfl rfl hJ hJx hY a w h1) ?_;rintro e a0 w0 ⟨s',⟨hE,u,J',hJ',hj⟩,X3,φ3,κ3,f3,hX3,h30⟩;obtain ⟨Ds,hDs,hnd,hDn,hDm,h3⟩:=h30.shut (fun h=>by rw [hX3.mks] at h;cases h);obtain rfl:=hDn hX3.mks;have hw':Go.Proofs.YtifebijohmlnbaaGreat.shut w0 []=w0:=rfl;rw [hw'] at h3;have hcl:Jcl J':=by rcases hj with rfl|rfl;exact hJ _;exact hJx
 have hold:=h3.hold hJ' hcl;obtain ⟨v,hv,hrun⟩:=run_results (F:=F) (l:=[]) h3 (by rw [hres];exact .nil)
 have hfin:∀ R:Ending→World→Prop,R (.returned v) w0→LeavesInM Fence.wide 0 Tryz.prog F a0.tmps R a0.defers .returning w0:=fun R hR=>by
  rw [hDs];exact leaves_marks [] w0 hnd hDm ⟨v,hrun,hR⟩
 have hpost:∃ v1 L' R',Ending.returned v=.returned v1∧(J ys.length w0 L' R'∨Jx w0 L' R'):=
  ⟨v,_,_,rfl,by rcases hj with rfl|rfl;exact .inl hold;exact .inr hold⟩
 rcases hE with rfl|rfl
 ·exact hfin _ hpost
 ·exact hfin _ hpost
theorem AP.YI {X:Cx} {s:AS} {ops:Array Oper} {rest:List Oper} {o:Oper} {Q:Exit→AS→Prop} {l k u:Nat} {J J' Jx:Jt} {y:List AV} {fo:Operand} {xs:Array Operand} {tys:Array TypeId} (hY:Yok Tryz.prog l J y J' Jx) (K1:AP Tryz.prog X ops Q rest (AS.put ⟨s.t,s.b.set k ⟨u,.y J'⟩⟩ o.dst (.sc (.bool true)))) (K2:AP Tryz.prog X ops Q rest (AS.put ⟨s.t,s.b.set k ⟨u,.y Jx⟩⟩ o.dst (.sc (.bool false))))
 (hg:o.guard=none:=by exact rfl) (ho:o.op=.call { callee:=.value fo,args:=xs,argTypes:=tys }:=by exact rfl) (hfo:aev s fo=.sc (.func (.yield l) #[] #[]):=by exact rfl)
 (hk:s.b[k]? = some ⟨u,.y J⟩:=by exact rfl) (hn:ny1 k 0 s.b=true:=by exact rfl) (hcl:Jcl J:=by assumption) (hy:YvL (xs.toList.map (aev s)) y:=by (repeat' (first|exact YvL.nil|apply YvL.cons (Yv.same rfl)|apply YvL.cons Yv.nl|apply YvL.cons Yv.fs));all_goals fail) (hyl:X.yl=true:=by assumption) (hρ:X.ρ=none:=by assumption):AP Tryz.prog X ops Q (o :: rest) s:=
 ap_yield hg ho hfo hk hn hcl hY hy hyl hρ K1 K2
theorem IC.N {g:Nat} {F:Func} {c:Code} {nt:Nat} {cap:List AV} {bs:List Bx} {ys:List (List AV)} {b1:Jt→List Sl} (hf:Tryz.prog.funcs[g]? = some F) (hnt:F.ntmps=nt)
 (K:∀ (X:Cx) (l:Nat) (J:Nat→Jt) (Jx:Jt),X.ρ=none→X.yl=true→(∀ i,Jcl (J i))→Jcl Jx→(∀ (i:Nat) (y:List AV),ys[i]? = some y→Yok Tryz.prog l (J i) y (J (i + 1)) Jx) →
   CP Tryz.prog X c (ItQ bs.length (J ys.length) Jx) ⟨.sc (.func (.yield l) #[] #[]) :: ((opnL cap (b1 (J 0))).1 ++ List.replicate (nt - (cap.length + 1)) (.tu [])),(opnL cap (b1 (J 0))).2⟩)
 (hb:F.body=some c:=by exact rfl) (hname:(F.name == "runtime.NumGoroutine")=false:=by exact rfl) (hres:F.results.toList=[]:=by exact rfl) (hfl:∀ x∈cap,x.fl1:=by exact fl1_all rfl) (hbk:∀ J,Bk (List.replicate bs.length ⟨0,.o⟩ ++ [⟨0,.y J⟩]) ((List.range bs.length).map fun i=>(i,0)) bs (b1 J):=by (intro J;(repeat' (first|exact Bk.nil|apply Bk.cF rfl rfl|(apply Bk.cN rfl;(try refine NX ?_);apply BkN.mk rfl)|apply Bk.r rfl));all_goals fail)):IC Tryz.prog g cap bs ys:=IC.enter hf hb hname hnt hres hfl hbk K
/-- nothing of the other side -/
def nyA (l:List Sl):Bool:=l.all fun e=>!e.b.isY
theorem nyA_at {l:List Sl} (h:nyA l=true) {i u:Nat} {J:Jt} (hi:l[i]? = some ⟨u,.y J⟩):False:=by
 have:=List.all_eq_true.1 h _ (List.mem_of_getElem? hi)
 cases this
/-- a walk of its own: what is held besides is out of sight -/
abbrev Cx.loc (X:Cx) (φ:Fi) (κ:Ka) (S:Ct) (w:World) (ρ:Option Nat):Cx:=⟨X.R,w,S,[],φ,κ,ρ,false,X.dB,X.mks⟩
section
variable {X:Cx} {φ:Fi} {κ:Ka} {f:Nat→Ct} {L L':Ct} {s:AS} {a:Act} {w w':World}
theorem SatW.aside (h:SatW X φ κ f L s a w) (hn:nyA s.b=true) (ρ:Option Nat) {t:List AV} {a':Act} (ht:RC w φ κ X.R t a'.tmps.toList Ct.z) (hd:a'.defers=[]∨a'.defers=a.defers):Sat (X.loc φ κ (sumF f s.b.length) w ρ) ⟨t,s.b⟩ a' w:=
 ⟨_,φ,κ,f,.rfl,
  { tm:=ht
    df:=⟨by
     obtain ⟨d0,Ds,d1,d2,d3⟩:=h.df.df;rcases hd with hd|hd
     ·exact ⟨d0,[],hd,⟨List.nodup_nil,fun _=>rfl⟩,fun _ h=>by cases h⟩
     ·exact ⟨d0,Ds,hd.trans d1,d2,d3⟩,fun i u J hi=>(nyA_at hn hi).elim⟩
    sl:=h.sl
    one:=fun x=>by have:=h.one x;simp only [Ct.z];omega
    own:=fun x hx=>by simp only [Ct.z] at hx;exact ⟨(h.own x (by omega)).1,.inl (by show sumF f s.b.length x≠0;omega)⟩
    rd:=fun x hx=>by have:=h.rd x hx;exact ⟨this.1,by simp only [Ct.z];omega⟩
    fr:=Fr.refl _ _
    bas:=⟨(fun i g hi=>by simp at hi),(fun _ _ _ h=>h),fun _ _ _ h=>h⟩
    new:=h.new }⟩
/-- and in sight again -/
theorem SatW.back (h:SatW X φ κ f L s a w) {ρ:Option Nat} {s3:AS} {a3:Act} {w3:World} (h3:Sat (X.loc φ κ (sumF f s.b.length) w ρ) s3 a3 w3) (hn:nyA s3.b=true) :
 ∃ R3 φ3 κ3 f3,X.le (X.gr R3)∧SatW (X.gr R3) φ3 κ3 f3 L s3 a3 w3∧(∀ b u g,φ b u=some g→φ3 b u=some g)∧(∀ b u v,κ b u=some v→κ3 b u=some v)∧(∀ x,X.R x→R3 x)∧w.heap.size≤w3.heap.size∧∀ x,x < w.heap.size→L x≠0∨X.R x→w3.heap[x]? = w.heap[x]?:=by
 obtain ⟨X3,φ3,κ3,f3,hX3,h3⟩:=h3;obtain ⟨hw3,hS3,hdn⟩:=hX3.fx rfl;have hdn:∀ x,X3.R x→X.R x∨sumF f s.b.length x≠0∨w.heap.size≤x:=hdn;have hup:∀ x,X.R x→X3.R x:=hX3.up;have hfr:Fr w w3 (sumF f s.b.length):=by have:=h3.fr;rwa [hw3,hS3] at this
 have hown:∀ x,sumF f3 s3.b.length x≠0→x < w3.heap.size∧(sumF f s.b.length x≠0∨w.heap.size≤x):=fun x hx=>by
  have:=h3.own x (by simp only [Ct.z];omega)
  rwa [hS3,hw3] at this
 have hone:∀ x,sumF f3 s3.b.length x≤1:=fun x=>by have:=h3.one x;simp only [Ct.z] at this;omega
 have hL:∀ x,L x≠0→x < w.heap.size∧sumF f s.b.length x=0:=fun x hx=>by have h1:=h.one x;have h2:=h.own x (by omega);exact ⟨h2.1,by omega⟩
 have hL3:∀ x,L x≠0→sumF f3 s3.b.length x=0:=fun x hx=>by have h1:=hL x hx;have h2:=hown x;omega
 have hup0:∀ x,sumF f s.b.length x≠0→X.S0 x≠0∨X.w0.heap.size≤x:=fun x hx=>(h.own x (by omega)).2
 have hsz:=hfr.size;have hsz0:=h.fr.size
 have hdn':∀ x,X3.R x→X.R x∨X.S0 x≠0∨X.w0.heap.size≤x:=fun x hx=>by
  rcases hdn x hx with h1|h1|h1
  ·exact .inl h1
  ·exact .inr (hup0 x h1)
  ·exact .inr (.inr (by omega))
 have hφ:∀ b u g,φ b u=some g→φ3 b u=some g:=fun b u g hg=>h3.bas.2.1 b u g (by rw [hX3.p0];exact hg)
 have hκ:∀ b u v,κ b u=some v→κ3 b u=some v:=fun b u g hg=>h3.bas.2.2 b u g (by rw [hX3.q0];exact hg)
 refine ⟨X3.R,φ3,κ3,f3,Cx.le_gr hup hdn',?_,hφ,hκ,hup,hsz,fun x hx hh=>?_⟩
 ·exact
   { tm:=h3.tm
     df:=⟨by have:=h3.df.df;rw [hX3.dB,hX3.mks] at this;exact this,fun i u J hi=>(nyA_at hn hi).elim⟩
     sl:=h3.sl
     one:=fun x=>by
      have h1:=hone x;have h2:=hL3 x;have h4:=h.one x;omega
     own:=fun x hx=>by
      by_cases h1:sumF f3 s3.b.length x=0
      ·have h2:=h.own x (by omega);exact ⟨by omega,h2.2⟩
      ·have h2:=hown x h1;refine ⟨h2.1,?_⟩;rcases h2.2 with h4|h4
       ·exact hup0 x h4
       ·exact .inr (by show X.w0.heap.size≤x;omega)
     rd:=fun x hx=>by
      have h1:=h3.rd x hx;simp only [Ct.z] at h1;refine ⟨h1.1,?_⟩
      have h5:L x=0:=by
       rcases hdn x hx with h4|h4|h4
       ·have:=h.rd x h4;omega
       ·have:=h.one x;omega
       ·have:=hL x;omega
      omega
     fr:=by
      have h1:=h.fr;refine ⟨hfr.os.trans h1.os,hfr.tape.trans h1.tape,hfr.output.trans h1.output,Nat.le_trans h1.size hfr.size,fun b hb hS=>?_⟩;have h2:=h.own b;rw [hfr.block b (Nat.lt_of_lt_of_le hb h1.size) (by dsimp only at hb hS;omega)];exact h1.block b hb hS
     bas:=⟨fun i g hi=>hφ _ _ _ (h.bas.1 i g hi),fun b u g hi=>hφ _ _ _ (h.bas.2.1 b u g hi),fun b u g hi=>hκ _ _ _ (h.bas.2.2 b u g hi)⟩
     new:=h3.new }
 ·refine hfr.block x hx ?_;rcases hh with hh|hh
  ·exact (hL x hh).2
  ·have:=h.rd x hh;omega
/-- a block that is held besides becomes another -/
theorem SatW.poke (h:SatW X φ κ f L s a w) {l:Nat} (o:Obj) (hl:L l≠0):SatW X φ κ f L s a (w.putObj l o):=by
 refine h.went ⟨rfl,rfl,rfl,by simp,fun b hb hL=>World.putObj_heap_other (fun e=>hl (e ▸ hL))⟩ (fun x=>by have:=h.one x;omega) fun x hx=>?_
 have:=h.own x (by omega);exact ⟨by simp;exact this.1,.inl hx⟩
/-- another frame -/
theorem SatW.refr (h:SatW X φ κ f L s a w) {t:List AV} {a':Act} (ht:RC w φ κ X.R t a'.tmps.toList Ct.z) (hd:Dfy X s.b a'.defers w):SatW X φ κ f L ⟨t,s.b⟩ a' w:=
 { tm:=ht,df:=hd,sl:=h.sl,one:=h.one,own:=h.own,rd:=h.rd,fr:=h.fr,bas:=h.bas,new:=h.new }
theorem RXs.keep {R:Nat→Prop} (hr:∀ x,R x→w'.heap[x]? = w.heap[x]?):∀ {bs gs S},RXs w R bs gs S→(∀ x,S x≠0→w'.heap[x]? = w.heap[x]?)→RXs w' R bs gs S
 | _,_,_,.nil,_=>.nil
 | _,_,_,.cons (.r a) h1 h2,hS=>.cons (.r (RV.keep hr a fun x hx=>hS x (by rw [h2];omega))) (RXs.keep hr h1 fun x hx=>hS x (by rw [h2];omega)) h2
 | _,_,_,.cons (S:=S) (T:=T) (.c (g:=g) (S':=S') a b c d e) h1 h2,hS=>.cons (.c ((hS g (by rw [h2,e];simp)).trans a) (RC.keep hr b fun x hx=>hS x (by rw [h2,e];omega)) c d e) (RXs.keep hr h1 fun x hx=>hS x (by rw [h2];omega)) h2
end
/-- values put into slots -/
def putL:List AV→List Nat→List AV→List AV
 | t,p :: ps,v :: vs=>putL (t.set p v) ps vs
 | t,_,_=>t
theorem RC.putL {w:World} {φ:Fi} {κ:Ka} {R:Nat→Prop}:∀ (ps:List Nat) {t:List AV} {tmps:Array Value} {y:List AV} {vs:List Value},RC w φ κ R t tmps.toList Ct.z→RC w φ κ R y vs Ct.z →
 RC w φ κ R (putL t ps y) ((ps.zip vs).foldl (fun t (p,v)=>t.setIfInBounds p v) tmps).toList Ct.z
 | [],_,_,_,_,h,_=>by simpa [Go.Proofs.YtifebijohmlnbaaGreat.putL] using h
 | p :: ps,t,tmps,y,vs,h,hy=>by
  cases hy with
  | nil=>simpa [Go.Proofs.YtifebijohmlnbaaGreat.putL] using h
  | cons h1 h2 h3=>
   obtain ⟨rfl,rfl⟩:=Ct.split h3;simp only [Go.Proofs.YtifebijohmlnbaaGreat.putL,List.zip_cons_cons,List.foldl_cons];refine RC.putL ps ?_ h2;rw [Array.toList_setIfInBounds];exact h.set_ h1
/-- a round's end -/
def RdQ (st':List Sl) (E:Code→List Sl→Prop):Exit→AS→Prop
 | .normal,s=>∃ t',Gh s ⟨t',st'⟩
 | .ret,s=>∃ t' b,Gh s ⟨t',b⟩∧E .ret b∧nyA b=true
 | .exit id,s=>∃ t' b,Gh s ⟨t',b⟩∧E (.exit id) b∧nyA b=true
 | _,_=>False
/-- what the ranging side holds while the other one is at work: its boxes, the loop's record, the block for calls put off -/
def JC (X:Cx) (t:List AV) (a:Act) (D l:Nat) (bst:List Sl) (rc:Obj):Jt:=fun w L R=>∃ X' φ κ f,X.le X'∧SatW X' φ κ f (fun x=>L x + if x=l then 1 else 0) ⟨t,bst⟩ a w∧(∀ x,R x→X'.R x)∧X'.R D∧w.heap[D]? = some (.deferred (some []))∧w.heap[l]? = some rc
theorem JC.cl {X:Cx} {t:List AV} {a:Act} {D l:Nat} {bst:List Sl} {rc:Obj}:Jcl (JC X t a D l bst rc):=by
 rintro w w' L L' R R' ⟨X',φ,κ,f,hX,h,hR,hD,hDh,hl⟩ hfr h1 h2 hup hdn
 have hl0:L l=0∧l < w.heap.size:=by
  have e1:=h.one l;have e2:=h.own l;simp only [if_true] at e1 e2;exact ⟨by omega,(e2 (by omega)).1⟩
 have hl':L' l=0:=by
  have:=h2 l;omega
 have hsz:=hfr.size
 have h3:SatW X' φ κ f (fun x=>L' x + if x=l then 1 else 0) ⟨t,bst⟩ a w':=by
  refine h.went ⟨hfr.os,hfr.tape,hfr.output,hfr.size,fun b hb hL=>hfr.block b hb (by (try dsimp only at hL);omega)⟩ (fun x=>?_) (fun x hx=>?_)
  ·(try dsimp only)
   by_cases hx:x=l
   ·subst hx;simp [hl']
   ·simp [hx];exact h1 x
  ·(try dsimp only at hx ⊢)
   by_cases hxl:x=l
   ·subst hxl;exact ⟨by omega,.inl (by simp)⟩
   ·simp [hxl] at hx ⊢;exact h2 x hx
 have hdn':∀ x,X'.R x∨R' x→X'.R x∨X'.S0 x≠0∨X'.w0.heap.size≤x:=fun x hx=>by
  rcases hx with hx|hx
  ·exact .inl hx
  ·rcases (hdn x hx).2.2 with h4|h4|h4
   ·exact .inl (hR x h4)
   ·exact .inr (h.own x (by (try dsimp only);omega)).2
   ·have:=h.fr.size;exact .inr (.inr (by omega))
 refine ⟨X'.gr (fun x=>X'.R x∨R' x),φ,κ,f,hX.trans (Cx.le_gr (fun x hx=>.inl hx) hdn'),h3.grow (fun x hx=>.inl hx) (fun x hx=>?_) hdn',fun x hx=>.inr hx,.inl hD,?_,?_⟩
 ·rcases hx with hx|hx
  ·exact h3.rd x hx
  ·obtain ⟨e1,e2,e3⟩:=hdn x hx;refine ⟨e1,?_⟩
   (try dsimp only)
   have hz:sumF f bst.length x=0∧x≠l:=by
    have e4:=h.one x;have e5:=h.own x
    (try dsimp only at e4 e5)
    rcases e3 with e3|e3|e3
    ·have:=(h.rd x (hR x e3)).2
     (try dsimp only at this)
     refine ⟨by omega,fun e=>?_⟩;rw [if_pos e] at this;omega
    ·refine ⟨by omega,fun e=>by rw [e] at e3;omega⟩
    ·refine ⟨?_,by omega⟩
     by_cases hz:sumF f bst.length x=0
     ·exact hz
     ·have:=(e5 (by omega)).1;omega
   rw [if_neg hz.2];omega
 ·have e1:=h.rd D hD
  (try dsimp only at e1)
  rw [hfr.block D e1.1 (by omega)];exact hDh
 ·rw [hfr.block l hl0.2 hl0.1];exact hl
theorem map_mark {l m:List Nat} (h:(l.map fun D=>({ target:=.collected D,args:=#[] }:Deferred))=m.map fun D=>{ target:=.collected D,args:=#[] }):l=m:=by
 induction l generalizing m with
 | nil=>cases m with
  | nil=>rfl
  | cons _ _=>simp at h
 | cons a l ih=>cases m with
  | nil=>simp at h
  | cons b m=>
   simp only [List.map_cons,List.cons.injEq,Deferred.mk.injEq,Target.collected.injEq] at h;rw [h.1.1,ih h.2]
/-- the statement -/
theorem cp_range {P:Program} {X:Cx} {s:AS} {Q:Exit→AS→Prop} {g:Operand} {ps:Array Nat} {assign body:Code} {gf:Nat} {cap al:List AV} {ks:List (Nat×Nat)} {bs:List Bx} {b1 bf:List Sl} {ys:List (List AV)}
 (hc:IC P gf al bs ys) (st:Nat→List Sl) (E:Code→List Sl→Prop) (hρ:X.ρ=none) (hmk:X.mks=true) (hg:aev s g=.fn gf cap) (hbd:bdC cap=false) (hp:PasC false ks [] s.b cap al b1) (hout:Out b1 ks bs bf) (h0:Wks ⟨s.t,bf⟩ ⟨s.t,st 0⟩)
 (hps:∀ y∈ys,y.length=ps.size) (hny:∀ i,nyA (st i)=true)
 (round:∀ (i:Nat) (y:List AV),ys[i]? = some y→∀ (Xr:Cx) (l:Nat),Xr.ρ=some l→CP P Xr assign (fun e s1=>e=.normal∧nyA s1.b=true∧∀ Xb:Cx,Xb.ρ=some l→CP P Xb body (RdQ (st (i + 1)) E) s1) ⟨putL s.t ps.toList y,st i⟩)
 (done:Q .normal ⟨s.t,st ys.length⟩) (stop:∀ b,(E .ret b→Q .ret ⟨s.t,b⟩)∧∀ id,E (.exit id) b→Q (.exit id) ⟨s.t,b⟩):CP P X (.rangeFunc g ps assign body) Q s:=by
 rintro a w ⟨X0,φ,κ,f,hX0,h⟩;rw [hρ];have hgv:=h.evs hg
 obtain ⟨cvs,hcv,hcr⟩:∃ cvs:List Value,a.eval g=.func (.func gf) #[] cvs.toArray∧RC w φ κ X0.R cap cvs Ct.z:=by
  generalize a.eval g=v at hgv
  cases hgv with|fn h=>rw [hbd];exact ⟨_,rfl,h⟩
 obtain ⟨S1,f1,h1,hfin⟩:=SatW.pasC (t:=s.t) (hp.nobf bf) h hcr;obtain ⟨X1,gs,Sb,f2,hX1,h2,h3,h4⟩:=SatW.out hout h1;have hgl:=h2.length;have hkl:ks.length=bs.length:=hout.length;have hargs:=hfin X1 f2 _ (kφ ks φ) (kκ ks κ) hX1 h3 (fun i k u g hi hg=>kφ_at hi hg) (fun i k u v hi hv=>kκ_at hi hv);have hle:∀ x,lendR false X1 f2 bf.length x→X1.R x:=fun x hx=>hx.elim id fun h=>by cases h.1
 replace hargs:=RC.hist (fun _ _ _ h=>h) (fun _ _ _ h=>h) hle hargs
 obtain ⟨f2',h3'⟩:=h3.wk h0
 -- the record and the block are laid
 obtain ⟨D,hD⟩:∃ D,D=w.heap.size:=⟨_,rfl⟩;obtain ⟨l,hl⟩:∃ l,l=w.heap.size + 1:=⟨_,rfl⟩;refine wpIn_rangeFunc fun fn _=>?_
 obtain ⟨rec,hrec⟩:∃ rec:LoopState→Option Code→Loop,rec=fun st p=>{ state:=st,pending:=p,fn,tmps:=a.tmps,params:=ps,assign,body,defers:=D }:=⟨_,rfl⟩
 obtain ⟨w1,hw1⟩:∃ w1,w1=(w.alloc (.deferred (some []))).alloc (.loop (rec .ready none)):=⟨_,rfl⟩
 have hwD:w1.heap[D]? = some (.deferred (some [])):=by
  rw [hw1,hD,Below.heap_alloc _ _ _ (by simp)];exact World.alloc_heap_new _ _
 have hwl:w1.heap[l]? = some (.loop (rec .ready none)):=by
  rw [hw1,hl];have:=World.alloc_heap_new (w.alloc (.deferred (some []))) (.loop (rec .ready none))
  simpa using this
 have hw1s:w1.heap.size=w.heap.size + 2:=by rw [hw1];simp
 have hbel:Below w.heap.size w w1:=by rw [hw1];exact ((Below.refl _ w).alloc (Nat.le_refl _) _).alloc (by simp) _
 have hsum:∀ x,S1 x + Sb x=Sb x + (S1 x + Ct.z x):=fun x=>by simp only [Ct.z];omega
 have hnew:∀ x,w.heap.size≤x→S1 x + Sb x=0:=fun x hx=>by
  have:=h3.own x;rw [hsum];dsimp only at this;omega
 have h5:SatW X1 φ κ f2' (fun x=>(S1 x + Sb x) + if x=l then 1 else 0) ⟨s.t,st 0⟩ a w1:=by
  refine h3'.went ⟨hbel.os,hbel.tape,hbel.output,hbel.size,fun b hb _=>hbel.block b hb⟩ (fun x=>?_) fun x hx=>?_
  ·have:=h3'.one x;have h6:=hnew x;have h7:=hsum x;dsimp only at this ⊢;split<;>omega
  ·have h6:=hnew x;have h7:=hsum x;have h8:=h3'.own x;dsimp only at hx h8 ⊢
   by_cases hxl:x=l
   ·rw [hxl];exact ⟨by omega,.inr (by omega)⟩
   ·simp only [if_neg hxl] at hx;exact ⟨by have:=(h8 (by omega)).1;omega,.inl (by omega)⟩
 have hsz0:=h5.fr.size;have hsz1:=h3'.fr.size;have hdn1:∀ x,X1.R x∨x=D→X1.R x∨X1.S0 x≠0∨X1.w0.heap.size≤x:=fun x hx=>hx.imp id fun hx=>.inr (by omega)
 have h6:SatW (X1.gr fun x=>X1.R x∨x=D) φ κ f2' (fun x=>(S1 x + Sb x) + if x=l then 1 else 0) ⟨s.t,st 0⟩ a w1:=h5.grow (fun x hx=>.inl hx) (fun x hx=>by
  rcases hx with hx|hx
  ·exact h5.rd x hx
  ·subst hx;refine ⟨by omega,?_⟩;have h8:=h3'.own x;have h9:=hnew x (by omega);have h10:=hsum x;dsimp only at h8 ⊢;rw [if_neg (by omega)];omega) hdn1
 have hX01:X.le X1:=hX0.trans hX1
 have hJ0:JC X s.t a D l (st 0) (.loop (rec .ready none)) w1 (fun x=>S1 x + Sb x) X1.R:=
  ⟨_,φ,κ,f2',hX01.trans (Cx.le_gr (fun x hx=>.inl hx) hdn1),h6,fun x hx=>.inl hx,.inr rfl,hwD,hwl⟩
 -- a round
 have hY:∀ (i:Nat) (y:List AV),ys[i]? = some y→Yok P l (JC X s.t a D l (st i) (.loop (rec .ready none))) y (JC X s.t a D l (st (i + 1)) (.loop (rec .ready none)))
  (fun w L R=>∃ c b,(c=.ret∨∃ id,c=.exit id)∧E c b∧JC X s.t a D l b (.loop (rec .done (some c))) w L R):=by
  rintro i y hy w' L R vs ⟨X',φ',κ',f',hX',hS,hR',hDR,hDh,hlh⟩ hrc;have hyl:vs.length=ps.size:=by rw [hrc.length];exact hps y (List.mem_of_getElem? hy)
  have hyrun:=run_yield (P:=P) (args:=vs.toArray) hlh (by rw [hrec];simp [hyl]);rw [hrec] at hyrun;refine ⟨fn,_,assign,body,hyrun,roundIn_of_wpIn trivial ?_⟩;have hlL:(fun x=>L x + if x=l then 1 else 0) l≠0:=by simp
  have hll:l < w'.heap.size:=(hS.own l (by simp)).1
  have hnl:∀ x,X'.R x∨L x≠0→x≠l:=fun x hx e=>by
   subst e;rcases hx with hx|hx
   ·have:=(hS.rd _ hx).2;simp at this
   ·have:=hS.one x;simp at this;omega
  have hsat1:=hS.aside (hny i) (some l) (t:=putL s.t ps.toList y) (a':={ tmps:=(ps.zip vs.toArray).foldl (fun t (p,v)=>t.setIfInBounds p v) a.tmps,defers:=[] }) (by
   have:=RC.putL ps.toList hS.tm (RC.hist (φ':=φ') (κ':=κ') (fun _ _ _ h=>by cases h) (fun _ _ _ h=>by cases h) hR' hrc)
   have e:(ps.zip vs.toArray).foldl (fun t (p,v)=>t.setIfInBounds p v) a.tmps=(ps.toList.zip vs).foldl (fun t (p,v)=>t.setIfInBounds p v) a.tmps:=by
    rw [←Array.foldl_toList,Array.toList_zip]
   dsimp only;rw [e];exact this) (.inl rfl)
  refine wpIn_mono (round i y hy _ l rfl _ _ hsat1) ?_;rintro e a1 w1' ⟨s1,⟨rfl,hn1,hb1⟩,hsat2⟩;obtain ⟨R3,φ3,κ3,f3,hle3,hS3,hφ3,hκ3,hup3,hsz3,hk3⟩:=hS.back hsat2 hn1;have hl3:w1'.heap[l]? = some (.loop (rec .ready none)):=(hk3 l hll (.inl hlL)).trans hlh;refine ⟨_,run_beginRound hl3 (by rw [hrec]),?_⟩;have hS4:=hS3.poke (.loop { rec .ready none with state:=.busy }) hlL;have hsat4:=hS4.aside hn1 (some l) hS4.tm (.inr rfl);refine wpIn_mono (hb1 _ rfl _ _ hsat4) ?_;rintro e a5 w5 ⟨s5,hq,hsat5⟩
  have fin:∀ (t':List AV) (b:List Sl) (jump:Option Code),Gh s5 ⟨t',b⟩→nyA b=true→∃ w6,(Instr.endRound l jump).run P w5=.ok (.bool jump.isNone) w6∧JC X s.t a D l b (.loop (rec (if jump.isNone then .ready else .done) jump)) w6 L R ∧
   w'.heap.size≤w6.heap.size∧∀ x,x < w'.heap.size→L x≠0∨R x→w6.heap[x]? = w'.heap[x]?:=by
   intro t' b jump hgh hnb;obtain ⟨R5,φ5,κ5,f5,hle5,hS5,hφ5,hκ5,hup5,hsz5,hk5⟩:=hS4.back (hgh _ _ _ hsat5) hnb;have hsz4:(w1'.putObj l (.loop { rec .ready none with state:=.busy })).heap.size=w1'.heap.size:=World.putObj_size;have hl5:w5.heap[l]? = some (.loop { rec .ready none with state:=.busy }):=(hk5 l (by rw [hsz4];omega) (.inl hlL)).trans (World.putObj_heap_same (by omega));have hrun:=run_endRound (P:=P) jump hl5;have hrc5:({ rec .ready none with state:=if jump.isNone then .ready else .done,pending:=jump }:Loop)=rec (if jump.isNone then .ready else .done) jump:=by rw [hrec]
   have hrun':(Instr.endRound l jump).run P w5=.ok (.bool jump.isNone) (w5.putObj l (.loop (rec (if jump.isNone then .ready else .done) jump))):=by rw [←hrc5];exact hrun
   have hS6:=hS5.poke (.loop (rec (if jump.isNone then .ready else .done) jump)) hlL
   have hall:∀ x,x < w'.heap.size→(L x≠0∨X'.R x)→(w5.putObj l (.loop (rec (if jump.isNone then .ready else .done) jump))).heap[x]? = w'.heap[x]?:=fun x hx hh=>by
    have hxl:x≠l:=hnl x (by rcases hh with hh|hh;exact .inr hh;exact .inl hh);rw [World.putObj_heap_other hxl];rw [hk5 x (by rw [hsz4];omega) (by rcases hh with hh|hh;exact .inl (by (try dsimp only);omega);exact .inr (hup3 x hh)),World.putObj_heap_other hxl];exact hk3 x hx (by rcases hh with hh|hh;exact .inl (by (try dsimp only);omega);exact .inr hh)
   have hRk:∀ x,X'.R x→(w5.putObj l (.loop (rec (if jump.isNone then .ready else .done) jump))).heap[x]? = w'.heap[x]?:=fun x hx=>hall x (hS.rd x hx).1 (.inr hx)
   have hsz6:w'.heap.size≤(w5.putObj l (.loop (rec (if jump.isNone then .ready else .done) jump))).heap.size:=by simp;omega
   have hS7:=hS6.refr (t:=s.t) (a':=a) (RC.hist (fun _ _ _ h=>hφ5 _ _ _ (hφ3 _ _ _ h)) (fun _ _ _ h=>hκ5 _ _ _ (hκ3 _ _ _ h)) (fun x hx=>hup5 x (hup3 x hx)) (RC.keep hRk hS.tm fun x hx=>absurd rfl hx)) ⟨by
    obtain ⟨d0,Ds,d1,d2,d3⟩:=hS.df.df;exact ⟨Nat.le_trans d0 hsz6,Ds,d1,d2,fun D' hD'=>⟨(d3 D' hD').1,hup5 _ (hup3 _ (d3 D' hD').2.1),(hRk D' (d3 D' hD').2.1).trans (d3 D' hD').2.2⟩⟩,fun i u J hi=>(nyA_at hnb hi).elim⟩
   refine ⟨_,hrun',⟨_,φ5,κ5,f5,hX'.trans (hle3.trans hle5),hS7,fun x hx=>hup5 x (hup3 x (hR' x hx)),hup5 _ (hup3 _ hDR),(hRk D hDR).trans hDh,World.putObj_heap_same (Array.getElem?_eq_some_iff.1 hl5).1⟩,hsz6,fun x hx hh=>hall x hx (by rcases hh with hh|hh;exact .inl hh;exact .inr (hR' x hh))⟩
  cases e with
  | normal=>
   obtain ⟨t',hgh⟩:=hq;obtain ⟨w6,q1,q2,q3,q4⟩:=fin t' _ none hgh (hny _);exact ⟨_,w6,q1,true,rfl,q2,q3,q4⟩
  | ret=>
   obtain ⟨t',b,hgh,hE,hnb⟩:=hq;obtain ⟨w6,q1,q2,q3,q4⟩:=fin t' b (some .ret) hgh hnb;exact ⟨_,w6,q1,false,rfl,⟨.ret,b,.inl rfl,hE,q2⟩,q3,q4⟩
  | exit id=>
   obtain ⟨t',b,hgh,hE,hnb⟩:=hq;obtain ⟨w6,q1,q2,q3,q4⟩:=fin t' b (some (.exit id)) hgh hnb;exact ⟨_,w6,q1,false,rfl,⟨.exit id,b,.inr ⟨id,rfl⟩,hE,q2⟩,q3,q4⟩
  | goto t=>exact hq.elim
  | panic c=>exact hq.elim
  | outgrown=>exact hq.elim
 have hcl:Jcl (fun w L R=>∃ c b,(c=.ret∨∃ id,c=.exit id)∧E c b∧JC X s.t a D l b (.loop (rec .done (some c))) w L R):=by
  rintro w w' L L' R R' ⟨c,b,h1,h2,h3⟩ k1 k2 k3 k4 k5;exact ⟨c,b,h1,h2,JC.cl _ _ _ _ _ _ h3 k1 k2 k3 k4 k5⟩
 have hbR:∀ x,X1.R x→w1.heap[x]? = w.heap[x]?:=fun x hx=>hbel.block x (h3.rd x hx).1
 have hS1:∀ x,S1 x + Sb x≠0→x < w.heap.size:=fun x hx=>by
  by_cases hxx:x < w.heap.size
  ·exact hxx
  ·exact absurd (hnew x (by omega)) hx
 have hcalls:=hc.2 l (fun i=>JC X s.t a D l (st i) (.loop (rec .ready none))) _ (fun _=>JC.cl) hcl hY w1 _ _ X1.R cvs gs S1 Sb
  (RC.keep hbR hargs fun x hx=>hbel.block x (hS1 x (by omega))) (RXs.keep hbR h2 fun x hx=>hbel.block x (hS1 x (by omega))) (ent_of hkl h4) (fun i v hv=>kφ_none (by rw [hkl];exact hv)) (fun i v hv=>kκ_none (by rw [hkl];exact hv)) (fun x=>by have:=h3.one x;rw [hsum];dsimp only at this ⊢;omega) (fun x hx=>by have:=hS1 x hx;omega)
  (fun x hx=>by
    have h7:=h3.rd x hx;rw [hsum];dsimp only at h7;exact ⟨by omega,by omega⟩) hJ0
 refine ⟨l,[{ target:=.collected D,args:=#[] }],w1,{ target:=.fn (.func gf) cvs.toArray,args:=#[.func (.yield l) #[] #[]] },w1,gf,_,w1,?_,?_,fun _ _=>trivial,hc.1 _ _,fun hd=>(by rw [Fw_depth] at hd;simp at hd),?_⟩
 ·have:=run_enterLoop_outer (P:=P) (w:=w) fn a.tmps ps assign body;rw [hl,hw1,hrec,hD];exact this
 ·simp only [rangeCall,resolve,Deferred.ofValue,hcv,Sem.run_pure,Array.empty_append];simp [Act.eval]
 ·have e0:(#[Value.func (.yield l) #[] #[]] ++ cvs.toArray)=(Value.func (.yield l) #[] #[] :: cvs).toArray:=by simp
  dsimp only;rw [e0];refine callsFw.2 (hcalls.mono ?_);rintro e w3 ⟨v,L',R',rfl,hJ⟩
  have main:∀ (b:List Sl) (pd:Option Code) (st':LoopState),st'≠.busy→JC X s.t a D l b (.loop (rec st' pd)) w3 L' R'→∃ w4,(Instr.endLoop l).run P w3=.ok pd w4 ∧
   Sat X ⟨s.t,b⟩ { a with defers:=[{ target:=.collected D,args:=#[] }] ++ a.defers } w4:=by
   rintro b pd st' hst ⟨X',φ',κ',f',hX',hS,hR',hDR,hDh,hlh⟩;refine ⟨w3.putObj l (.loop (rec .exhausted pd)),by have:=run_endLoop (P:=P) hlh (by rw [hrec];exact hst);rw [hrec] at this ⊢;exact this,X',φ',κ',f',hX',?_⟩;have hS2:SatW X' φ' κ' f' Ct.z ⟨s.t,b⟩ a (w3.putObj l (.loop (rec .exhausted pd))):=hS.went (L':=Ct.z) ⟨rfl,rfl,rfl,by simp,fun x hx hL=>World.putObj_heap_other (fun e=>by subst e;simp at hL)⟩ (fun x=>by simp [Ct.z]) (fun x hx=>absurd rfl hx);refine hS2.refr hS2.tm ⟨?_,hS2.df.yd⟩;obtain ⟨d0,Ds,d1,d2,d3⟩:=hS2.df.df;obtain ⟨e0,Es,e1,e2,e3⟩:=h.df.df;have hDE:Ds=Es:=map_mark (d1.symm.trans e1);subst hDE;have hdl:D≠l:=by omega
   refine ⟨d0,D :: Ds,by simp [d1],⟨List.nodup_cons.2 ⟨fun hm=>?_,d2.1⟩,fun hm=>?_⟩,fun D' hD'=>?_⟩
   ·have:=(Array.getElem?_eq_some_iff.1 (e3 D hm).2.2).1;omega
   ·rw [hX'.mks,hmk] at hm;cases hm
   ·rcases List.mem_cons.1 hD' with rfl|hD'
    ·refine ⟨?_,hDR,?_⟩
     ·rw [hX'.dB,←hX0.dB];omega
     ·rw [World.putObj_heap_other hdl];exact hDh
    ·exact d3 D' hD'
  rcases hJ with hJ|⟨c,b,hc,hE,hJ⟩
  ·obtain ⟨w4,q1,q2⟩:=main _ _ _ (by simp) hJ;exact ⟨none,w4,q1,⟨_,done,q2⟩⟩
  ·obtain ⟨w4,q1,q2⟩:=main _ _ _ (by simp) hJ;refine ⟨some c,w4,q1,?_⟩;rcases hc with rfl|⟨id,rfl⟩
   ·exact wpIn_ret ⟨_,(stop b).1 hE,q2⟩
   ·exact wpIn_exit ⟨_,(stop b).2 id hE,q2⟩
/-- the same, its side conditions where they stand -/
theorem CP.RG {P:Program} {X:Cx} {s:AS} {Q:Exit→AS→Prop} {g:Operand} {ps:Array Nat} {assign body:Code} {gf:Nat} {cap al:List AV} {ks:List (Nat×Nat)} {bs:List Bx} {b1 bf:List Sl} {ys:List (List AV)}
 (hc:IC P gf al bs ys) (st:Nat→List Sl) (E:Code→List Sl→Prop) (hps:∀ y∈ys,y.length=ps.size)
 (round:∀ (i:Nat) (y:List AV),ys[i]? = some y→∀ (Xr:Cx) (l:Nat),Xr.ρ=some l→CP P Xr assign (fun e s1=>e=.normal∧nyA s1.b=true∧∀ Xb:Cx,Xb.ρ=some l→CP P Xb body (RdQ (st (i + 1)) E) s1) ⟨putL s.t ps.toList y,st i⟩)
 (done:Q .normal ⟨s.t,st ys.length⟩) (stop:∀ b,(E .ret b→Q .ret ⟨s.t,b⟩)∧∀ id,E (.exit id) b→Q (.exit id) ⟨s.t,b⟩)
 (hρ:X.ρ=none:=by assumption) (hmk:X.mks=true:=by assumption) (hg:aev s g=.fn gf cap:=by exact rfl) (hbd:bdC cap=false:=by exact rfl) (hks:ksA al cap bs.length=ks:=by exact rfl) (hp:PasC false ks [] s.b cap al b1:=by ((repeat' (first|exact PasC.nil|apply PasC.nil|apply PasC.cons|apply PasV.leaf rfl|apply PasV.nl|apply PasV.bp rfl|apply PasV.vp rfl|apply PasV.pz|exact VsM.nil|apply VsM.cons rfl|apply PasV.lend rfl rfl rfl|apply PasV.lend rfl rfl (ro_B _)|apply PasV.lend rfl rfl (ro_M _)|apply PasV.lend rfl rfl (ro_E _ _)|apply PasV.lend rfl rfl (ro_I _)|apply PasV.lend rfl rfl (by (simp only [rn,List.map_cons,List.map_nil];first|done|rfl))|apply PasV.mv rfl|apply PasV.hk rfl|apply PasV.ag|apply PasV.fn|exact PasV.fs|apply PasV.any|exact rfl));all_goals fail)) (hout:Out b1 ks bs bf:=by ((repeat' (first|exact ClsC.nil|apply ClsC.nl|apply ClsC.leaf rfl|apply ClsC.hd rfl|apply ClsC.ob rfl|apply ClsC.mo rfl|apply ClsC.mp rfl|apply ClsC.hp rfl|exact Out.nil|apply Out.cons rfl|apply Out.r rfl|apply Out.f rfl|apply ClsC.fn|apply ClsC.fz rfl (ro_B _)|apply ClsC.fz rfl (ro_M _)|apply ClsC.fz rfl (ro_E _ _)|apply ClsC.fz rfl rfl));all_goals fail)) (h0:Wks ⟨s.t,bf⟩ ⟨s.t,st 0⟩:=by ((refine ⟨?_,?_⟩<;>(try dsimp only)<;>(repeat' (first|exact Wk.nil|exact WkB.nil|apply Wk.same|apply Wk.de|apply Wk.nl|apply WkB.same|apply WkB.drop)));all_goals fail))
 (hny:∀ i,nyA (st i)=true:=by (intro i;exact rfl)):CP P X (.rangeFunc g ps assign body) Q s:=cp_range hc st E hρ hmk hg hbd hp hout h0 hps hny round done stop
def chS (b:List UInt8):List (List UInt8):=(List.range (b.length / 64)).map fun i=>(b.drop (64 * i)).take 64
abbrev bxB (b:List UInt8):Bx:=.c 22 [bs none b]
theorem blocks_ic (b:List UInt8) (hb:b.length≤100000000):IC Tryz.prog 240 [.bp 0 0 0] [bxB b] ((chS b).map fun c=>[bs none c]):=by
 have hlen:((chS b).map fun c=>[bs none c]).length=b.length / 64:=by simp [chS]
 have hat:∀ i,i < b.length / 64→((chS b).map fun c=>[bs none c])[i]? = some [bs none ((b.drop (64 * i)).take 64)]:=fun i hi=>by simp [chS,hi]
 refine IC.N Tryz.func240 Tryz.ntmps240 ?_;intro X l J Jx hρ hyl hJ hJx hY;rw [hlen];generalize ((chS b).map fun c=>[bs none c])=ys at hat hY;refine NX ?_
 repeat' (first|((first|refine wA8 ?_|(refine GA ?_;refine ⟨fun hg=>?_,fun hg=>?_⟩)|refine wA2 ?_)<;>(try simp only [nx,q4,rn,fq,Nat.mul_one,Bool.and_true,Bool.and_false,Nat.reduceBEq,Nat.reduceAdd,Nat.reduceSub,BEq.rfl]))|refine wT4 ?_|with_reducible intro Q' hQ'|(refine GC ?_;refine ⟨fun hc=>?_,fun hc=>?_⟩)|simp only [la])
 refine cp_loopS [3,4,5,6,7,8,9,10,11,12,13] (fun a:Nat=>b.length / 64 - a) (fun a=>a≤b.length / 64) (fun _=>[]) (fun a=>[(0,⟨0,bxB (b.drop (64 * a))⟩),(1,⟨0,.y (J a)⟩)]) 0 (Nat.zero_le _) (by exact Gh.W) ?_;intro i hi;simp only [setT,deT,setB,List.set_cons_succ,List.set_cons_zero]
 by_cases hlt:i < b.length / 64
 ·have hy:=hY i _ (hat i hlt);have hJi:=hJ i;have d1:decide ((64:Int)≤((List.drop (64 * i) b).length:Int))=true:=by simp;omega
  have hdd:List.take ((List.drop (64 * i) b).length - Int.toNat 64) (List.drop (Int.toNat 64) (List.drop (64 * i) b))=List.drop (64 * (i + 1)) b:=by
   rw [List.take_of_length_le (by simp;omega),List.drop_drop];congr 1
  repeat' (first|((first|refine wA8 ?_|(refine GA ?_;refine ⟨fun hg=>?_,fun hg=>?_⟩)|((with_reducible apply AP.k_any);refine AP.YI (k:=1) hy ?_ ?_)|refine wA2 ?_)<;>(try simp only [d1,nx,q4,rn,fq,Nat.mul_one,Bool.and_true,Bool.and_false,Nat.reduceBEq,Nat.reduceAdd,Nat.reduceSub,BEq.rfl]))|refine wT4 ?_|with_reducible intro Q' hQ'|(refine GC ?_;refine ⟨fun hc=>?_,fun hc=>?_⟩)|simp only [la])
  ·simp only [hdd];exact ⟨i + 1,by omega,by omega,by exact Gh.W⟩
  ·exact ⟨by first|exact .inr rfl|exact .inl rfl,_,_,rfl,by first|exact .inl rfl|exact .inr rfl⟩
 ·obtain rfl:i=b.length / 64:=by omega
  have d1:decide ((64:Int)≤((List.drop (64 * (b.length / 64)) b).length:Int))=false:=by simp;omega
  repeat' (first|((first|refine wA8 ?_|(refine GA ?_;refine ⟨fun hg=>?_,fun hg=>?_⟩)|refine wA2 ?_)<;>(try simp only [d1,nx,q4,rn,fq,Nat.mul_one,Bool.and_true,Bool.and_false,Nat.reduceBEq,Nat.reduceAdd,Nat.reduceSub,BEq.rfl]))|refine wT4 ?_|with_reducible intro Q' hQ'|(refine GC ?_;refine ⟨fun hc=>?_,fun hc=>?_⟩)|simp only [la])
  exact ⟨by first|exact .inr rfl|exact .inl rfl,_,_,rfl,by first|exact .inl rfl|exact .inr rfl⟩
theorem blocks_ac (b:List UInt8):AC Tryz.prog 230 [bs none b] [] (fun v bs'=>v=.fn 240 [.bp 0 0 0]∧bs'=[bxB b]):=by
 refine AC.N Tryz.func230 Tryz.ntmps230 ?_;intro X hρ hmks;refine NX ?_
 repeat' (first|((first|refine wA7 ?_|refine wA2 ?_)<;>(try simp only [nx,q4,rn,fq,Nat.mul_one,Bool.and_true,Bool.and_false,Nat.reduceBEq,Nat.reduceAdd,Nat.reduceSub,BEq.rfl]))|refine wT4 ?_|with_reducible intro Q' hQ'|(refine GC ?_;refine ⟨fun hc=>?_,fun hc=>?_⟩)|simp only [la])
 (exact RetQ.A [(0,1)] (by exact ⟨rfl,rfl⟩))
structure Hs where
 n:S8
 rest:List UInt8
 all:Nat
abbrev hC (h:Hs):List AV:=[B true,Q4 h.n.a,Q4 h.n.b,Q4 h.n.c,Q4 h.n.d,Q4 h.n.e,Q4 h.n.f,Q4 h.n.g,Q4 h.n.h,bs none h.rest,I h.all]
abbrev hB (h:Hs):Bx:=.c 281 (hC h)
theorem hnew_ac:AC Tryz.prog 209 [] [] (fun v bs'=>v=.bp 0 0 0∧bs'=[hB ⟨s8z,[],0⟩]):=by
 have h:=first_ac;refine AC.N Tryz.func209 Tryz.ntmps209 ?_;intro X hρ hmks;refine NX ?_
 repeat' (first|((first|refine wA7 ?_|refine wA2 ?_)<;>(try simp only [nx,q4,rn,fq,Nat.mul_one,Bool.and_true,Bool.and_false,Nat.reduceBEq,Nat.reduceAdd,Nat.reduceSub,BEq.rfl]))|refine wT4 ?_|with_reducible intro Q' hQ'|(refine GC ?_;refine ⟨fun hc=>?_,fun hc=>?_⟩)|simp only [la])
 (exact RetQ.A [(0,1)] (by exact ⟨rfl,rfl⟩))
theorem wA9 {G G':Prop} (K:G') (h:G'→G:=by (intro kz;(with_reducible apply AP.k_any);first|exact AP.A kz|exact AP.AB 0 kz|exact AP.AB 1 kz|exact AP.AL kz|exact AP.LB kz|exact AP.TB kz|exact AP.IX kz|exact AP.SF kz|exact AP.SV kz|exact AP.CV kz|exact AP.CO kz)):G:=h K
theorem hnone_ac (h:Hs):AC Tryz.prog 229 [.bp 0 0 0] [hB h] (fun v bs'=>v=B false∧bs'=[hB h]):=by
 refine AC.N Tryz.func229 Tryz.ntmps229 ?_;intro X hρ hmks;refine NX ?_
 repeat' (first|((first|refine wA5 ?_|(refine GA ?_;refine ⟨fun hg=>?_,fun hg=>?_⟩)|(refine GV ?_;intro c hnil;simp only [nz])|refine wA9 ?_|refine wA2 ?_)<;>(try simp only [nx,q4,rn,fq,Nat.mul_one,Bool.and_true,Bool.and_false,Nat.reduceBEq,Nat.reduceAdd,Nat.reduceSub,BEq.rfl]))|refine wT4 ?_|with_reducible intro Q' hQ'|(refine GC ?_;refine ⟨fun hc=>?_,fun hc=>?_⟩)|simp only [la])
 (exact RetQ.A [(0,0)] (by exact ⟨rfl,rfl⟩))
def foldB (n:S8) (l:List (List UInt8)):S8:=l.foldl blockS n
theorem foldB_take {n:S8} {l:List (List UInt8)} {i:Nat} {c:List UInt8} (h:l[i]? = some c):foldB n (l.take (i + 1))=blockS (foldB n (l.take i)) c:=by
 obtain ⟨hi,rfl⟩:=List.getElem?_eq_some_iff.1 h;unfold foldB;rw [List.take_succ_eq_append_getElem hi,List.foldl_append];rfl
theorem chS_len {b:List UInt8} {i:Nat} {c:List UInt8} (h:(chS b)[i]? = some c):c.length≤100000000:=by
 have:=List.mem_of_getElem? h;unfold chS at this;obtain ⟨j,_,rfl⟩:=List.mem_map.1 this;simp;omega
def writeS (h:Hs) (b:List UInt8):Hs:=⟨foldB h.n (chS (h.rest ++ b)),(h.rest ++ b).drop ((h.rest ++ b).length / 64 * 64),h.all + b.length⟩
theorem hwrite_ac (h:Hs) (b:List UInt8) (hr:h.rest.length≤100) (hb:b.length≤50000000) (ha:h.all≤10000000):AC Tryz.prog 210 [.bp 0 0 0,bs none b] [hB h] (fun v bs'=>v=I 0∧bs'=[hB (writeS h b)]):=by
 have h1:=hnone_ac h;have h2:=wcat_ac [h.rest,b] (by simp) (by simp;omega);rw [show [h.rest,b].flatten=h.rest ++ b by simp] at h2;have h3:=blocks_ac (h.rest ++ b);refine AC.N Tryz.func210 Tryz.ntmps210 ?_;intro X hρ hmks;refine NX ?_;refine CP.gh gh_slot ?_;refine NX ?_
 repeat' (first|((first|refine wA7 ?_|refine wA2 ?_|refine wD5 ?_)<;>(try simp only [nx,q4,rn,fq,Nat.mul_one,Bool.and_true,Bool.and_false,Nat.reduceBEq,Nat.reduceAdd,Nat.reduceSub,BEq.rfl]))|refine wT5 ?_|with_reducible intro Q' hQ'|(refine GC ?_;refine ⟨fun hc=>?_,fun hc=>?_⟩)|simp only [la])
 refine CP.RG (blocks_ic (h.rest ++ b) (by simp;omega)) (fun i=>[⟨0,hB ⟨foldB h.n ((chS (h.rest ++ b)).take i),h.rest,h.all⟩⟩,⟨1,.c 263 [.bp 0 0 0]⟩,⟨1,.x⟩,⟨2,.x⟩]) (fun _ _=>False) (fun y hy=>by obtain ⟨c,_,rfl⟩:=List.mem_map.1 hy;rfl) ?_ ?_ (fun _=>⟨fun h=>h.elim,fun _ h=>h.elim⟩)
 ·intro i y hy Xr l hρ
  obtain ⟨c,hc,rfl⟩:∃ c,(chS (h.rest ++ b))[i]? = some c∧y=[bs none c]:=by
   rw [List.getElem?_map,Option.map_eq_some_iff] at hy;obtain ⟨c,h1,h2⟩:=hy;exact ⟨c,h1,h2.symm⟩
  have hs:=foldB_take (n:=h.n) hc;generalize foldB h.n (List.take i (chS (h.rest ++ b)))=m at *;generalize foldB h.n (List.take (i + 1) (chS (h.rest ++ b)))=m' at *;subst hs;have h4:=block_ac m c (chS_len hc);simp only [putL,List.set_cons_succ,List.set_cons_zero]
  repeat' (first|((first|refine wA7 ?_|refine wA2 ?_|refine wD5 ?_)<;>(try simp only [nx,q4,rn,fq,Nat.mul_one,Bool.and_true,Bool.and_false,Nat.reduceBEq,Nat.reduceAdd,Nat.reduceSub,BEq.rfl]))|refine wT5 ?_|with_reducible intro Q' hQ'|(refine GC ?_;refine ⟨fun hc=>?_,fun hc=>?_⟩)|simp only [la])
  refine ⟨trivial,rfl,fun Xb hρ=>?_⟩
  repeat' (first|((first|refine wA7 ?_|refine wA2 ?_|refine wD5 ?_)<;>(try simp only [nx,q4,rn,fq,Nat.mul_one,Bool.and_true,Bool.and_false,Nat.reduceBEq,Nat.reduceAdd,Nat.reduceSub,BEq.rfl]))|refine wT5 ?_|with_reducible intro Q' hQ'|(refine GC ?_;refine ⟨fun hc=>?_,fun hc=>?_⟩)|simp only [la])
  exact ⟨_,by exact Gh.W⟩
 ·simp only [List.length_map];rw [List.take_of_length_le (Nat.le_refl _)];have hl:(h.rest ++ b).length=h.rest.length + b.length:=by simp
  have hq1:IntKind.i64.wrap (Int.tdiv ((h.rest ++ b).length:Int) 64)=(((h.rest ++ b).length / 64:Nat):Int):=by
   rw [show Int.tdiv ((h.rest ++ b).length:Int) 64=(((h.rest ++ b).length / 64:Nat):Int) from rfl];exact wrap_i64 (by omega) (by omega)
  have hq2:IntKind.i64.wrap ((((h.rest ++ b).length / 64:Nat):Int) * 64)=(((h.rest ++ b).length / 64 * 64:Nat):Int):=by
   rw [wrap_i64 (by omega) (by omega)];omega
  have hq3:IntKind.i64.wrap ((h.all:Int) + (b.length:Int))=((h.all + b.length:Nat):Int):=by
   rw [wrap_i64 (by omega) (by omega)];omega
  have hd:List.take ((h.rest ++ b).length - (h.rest ++ b).length / 64 * 64) (List.drop ((h.rest ++ b).length / 64 * 64) (h.rest ++ b))=List.drop ((h.rest ++ b).length / 64 * 64) (h.rest ++ b):=List.take_of_length_le (by simp)
  repeat' (first|((first|refine wA7 ?_|refine wA2 ?_|refine wD5 ?_)<;>(try simp only [hq1,hq2,hq3,Int.toNat_natCast,nx,q4,rn,fq,Nat.mul_one,Bool.and_true,Bool.and_false,Nat.reduceBEq,Nat.reduceAdd,Nat.reduceSub,BEq.rfl]))|refine wT5 ?_|with_reducible intro Q' hQ'|(refine GC ?_;refine ⟨fun hc=>?_,fun hc=>?_⟩)|simp only [la])
  simp only [hd];(exact RetQ.A [(0,0)] (by exact ⟨rfl,rfl⟩))
def byS (x:UInt32) (i:Nat):UInt8:=UInt8.ofNat (x.toNat / 256 ^ i % 256)
theorem p32_ac (x:UInt32):AC Tryz.prog 192 [Q4 x] [] (fun v bs'=>v=bs none [byS x 3,byS x 2,byS x 1,byS x 0]∧bs'=[]):=by
 have h:=(put_ac x.toNat 4 (by omega)).ro (r2:=bs none (putS x.toNat 4)) (by simp only [AV.ro,ro_B]);refine AC.N Tryz.func192 Tryz.ntmps192 ?_;intro X hρ hmks;refine NX ?_
 repeat' (first|((first|refine wA7 ?_|refine wA2 ?_)<;>(try simp only [nx,q4,rn,fq,Nat.mul_one,Bool.and_true,Bool.and_false,Nat.reduceBEq,Nat.reduceAdd,Nat.reduceSub,BEq.rfl]))|refine wT4 ?_|with_reducible intro Q' hQ'|(refine GC ?_;refine ⟨fun hc=>?_,fun hc=>?_⟩)|simp only [la])
 (exact RetQ.A [] (by exact ⟨rfl,rfl⟩))
theorem blocks_acO (b:List UInt8):AC Tryz.prog 230 [bs (some tU) b] [] (fun v bs'=>v=.fn 240 [.bp 0 0 0]∧bs'=[bxB b]):=by
 refine AC.N Tryz.func230 Tryz.ntmps230 ?_;intro X hρ hmks;refine NX ?_;refine CP.gh (gh_fzS (b:=0) rfl) ?_;simp only [nx,q4,rn,fq,Nat.mul_one,Bool.and_true,Bool.and_false,Nat.reduceBEq,Nat.reduceAdd,Nat.reduceSub,BEq.rfl]
 repeat' (first|((first|refine wA7 ?_|refine wA2 ?_)<;>(try simp only [nx,q4,rn,fq,Nat.mul_one,Bool.and_true,Bool.and_false,Nat.reduceBEq,Nat.reduceAdd,Nat.reduceSub,BEq.rfl]))|refine wT4 ?_|with_reducible intro Q' hQ'|(refine GC ?_;refine ⟨fun hc=>?_,fun hc=>?_⟩)|simp only [la])
 (exact RetQ.A [(0,2)] (by exact ⟨rfl,rfl⟩))
def padS (rest:List UInt8) (all:Nat):List UInt8:=[rest,[0x80],List.replicate ((119 - rest.length) % 64) 0,putS (8 * all) 8].flatten
def wordsB (m:S8):List UInt8:=[byS m.a 3,byS m.a 2,byS m.a 1,byS m.a 0,byS m.b 3,byS m.b 2,byS m.b 1,byS m.b 0,byS m.c 3,byS m.c 2,byS m.c 1,byS m.c 0,byS m.d 3,byS m.d 2,byS m.d 1,byS m.d 0,byS m.e 3,byS m.e 2,byS m.e 1,byS m.e 0,byS m.f 3,byS m.f 2,byS m.f 1,byS m.f 0,byS m.g 3,byS m.g 2,byS m.g 1,byS m.g 0,byS m.h 3,byS m.h 2,byS m.h 1,byS m.h 0]
def sumS (h:Hs):List UInt8:=wordsB (foldB h.n (chS (padS h.rest h.all)))
def mw (m:S8) (i:Nat):UInt32:=[m.a,m.b,m.c,m.d,m.e,m.f,m.g,m.h].getD i 0
theorem mw_at (m:S8) {i:Nat} (h:i < 8):(e8 m)[i]? = some (Q4 (mw m i)):=by
 rcases i with _ | _ | _ | _ | _ | _ | _ | _|i<;>first|rfl|(exfalso;omega)
theorem mix_cpy (m:S8) {i:Nat} (h:i < 8):cpy (mixT (wordsB m) (4 * i)) (4 * i) [U (byS (mw m i) 3),U (byS (mw m i) 2),U (byS (mw m i) 1),U (byS (mw m i) 0)]=mixT (wordsB m) (4 * (i + 1)):=by
 rcases i with _ | _ | _ | _ | _ | _ | _ | _|i<;>first|rfl|(exfalso;omega)
theorem hsum_ac (h:Hs) (hr:h.rest.length < 64) (ha:h.all≤100000000):AC Tryz.prog 211 [.bp 0 0 0] [hB h] (fun v bs'=>v=.tu [tg (sumS h),I 0]∧bs'=[hB h]):=by
 have h1:=hnone_ac h;have hq0:IntKind.i64.wrap (119 - (h.rest.length:Int))=((119 - h.rest.length:Nat):Int):=by rw [wrap_i64 (by omega) (by omega)];omega
 have hq1:Int.tmod ((119 - h.rest.length:Nat):Int) 64=(((119 - h.rest.length) % 64:Nat):Int):=rfl;have hq2:IntKind.i64.wrap (8 * (h.all:Int))=((8 * h.all:Nat):Int):=by rw [wrap_i64 (by omega) (by omega)];omega
 have hq3:IntKind.u64.wrap ((8 * h.all:Nat):Int)=((8 * h.all:Nat):Int):=wrap_u64 (by omega) (by omega);have hk:(119 - h.rest.length) % 64 < 64:=Nat.mod_lt _ (by omega);have h2:=put64_ac (8 * h.all);have h3:=wcat_ac [h.rest,[0x80],List.replicate ((119 - h.rest.length) % 64) 0,putS (8 * h.all) 8] (by simp) (by simp [putS_length];omega);have h4:=blocks_acO (padS h.rest h.all);have hpl:(padS h.rest h.all).length≤1000:=by simp [padS,putS_length];omega
 rw [show [h.rest,[0x80],List.replicate ((119 - h.rest.length) % 64) 0,putS (8 * h.all) 8].flatten=padS h.rest h.all from rfl] at h3;unfold sumS;generalize padS h.rest h.all=p at *;refine AC.N Tryz.func211 Tryz.ntmps211 ?_;intro X hρ hmks;refine NX ?_;refine CP.gh gh_slot ?_;refine NX ?_
 refine CP.gh gh_slot ?_;refine NX ?_
 refine CP.gh gh_slot ?_;refine NX ?_
 refine CP.gh gh_slot ?_;refine NX ?_
 refine CP.gh gh_slot ?_;refine NX ?_
 refine CP.gh gh_slot ?_;refine NX ?_
 refine CP.gh gh_slot ?_;refine NX ?_
 refine CP.gh gh_slot ?_;refine NX ?_
 repeat' (first|((first|refine wA7 ?_|((with_reducible apply AP.k_any);refine ap_makeS rfl rfl rfl rfl rfl rfl rfl rfl rfl rfl rfl (by omega) ?_)|refine wA2 ?_|refine wD5 ?_|((with_reducible apply DW.k_any);refine DW.known rfl ?_;(with_reducible first|apply DW.sx 2);(iterate 2 (focus (simp only [ft,nm,Nat.reduceAdd,Nat.reduceBEq,List.getElem?_cons_zero,List.getElem?_cons_succ];exact rfl)));(focus (intro X V;simp only [ft,nm,Nat.reduceAdd,Nat.reduceBEq];(try (refine AP.Y ?_;dsimp only));(first|refine ap_makeS rfl rfl rfl rfl rfl rfl rfl rfl rfl rfl rfl (by omega) ?_|fail);(try refine NX ?_);refine AP.nil ?_;(first|refine ⟨trivial,rfl,?_⟩|refine ⟨rfl,rfl,?_⟩);(repeat' (first|exact Mg.nil|apply Mg.keep rfl|apply Mg.take rfl));done));(focus (refine Exists.intro (fun _=>0) ?_;apply Exists.intro;(repeat' (first|exact Mg.nil|apply Mg.keep rfl|apply Mg.take rfl));done));(iterate 2 (focus (exact rfl)))))<;>(try simp only [mk0,hq0,hq1,hq2,hq3,nx,q4,rn,fq,Nat.mul_one,Bool.and_true,Bool.and_false,Nat.reduceBEq,Nat.reduceAdd,Nat.reduceSub,BEq.rfl]))|refine wT5 ?_|with_reducible intro Q' hQ'|(refine GC ?_;refine ⟨fun hc=>?_,fun hc=>?_⟩)|simp only [la])
 refine CP.RG (blocks_ic p (by omega)) (fun i=>[⟨0,hB h⟩,⟨1,.c 54 (tagC (List.replicate 32 0))⟩,⟨1,.c 278 (e8 (foldB h.n ((chS p).take i)))⟩,⟨2,.x⟩,⟨3,.x⟩,⟨0,.x⟩,⟨0,.x⟩,⟨0,.x⟩,⟨0,.x⟩]) (fun _ _=>False) (fun y hy=>by obtain ⟨c,_,rfl⟩:=List.mem_map.1 hy;rfl) ?_ ?_ (fun _=>⟨fun h=>h.elim,fun _ h=>h.elim⟩)
 ·intro i y hy Xr l hρ
  obtain ⟨c,hc,rfl⟩:∃ c,(chS p)[i]? = some c∧y=[bs none c]:=by
   rw [List.getElem?_map,Option.map_eq_some_iff] at hy;obtain ⟨c,h1,h2⟩:=hy;exact ⟨c,h1,h2.symm⟩
  have hs:=foldB_take (n:=h.n) hc;generalize foldB h.n (List.take i (chS p))=m at *;generalize foldB h.n (List.take (i + 1) (chS p))=m' at *;subst hs;have h5:=block_ac m c (chS_len hc);simp only [putL,List.set_cons_succ,List.set_cons_zero]
  repeat' (first|((first|refine wA7 ?_|refine wA2 ?_|refine wD5 ?_)<;>(try simp only [nx,q4,rn,fq,Nat.mul_one,Bool.and_true,Bool.and_false,Nat.reduceBEq,Nat.reduceAdd,Nat.reduceSub,BEq.rfl]))|refine wT5 ?_|with_reducible intro Q' hQ'|(refine GC ?_;refine ⟨fun hc=>?_,fun hc=>?_⟩)|simp only [la])
  refine ⟨trivial,rfl,fun Xb hρ=>?_⟩
  repeat' (first|((first|refine wA7 ?_|refine wA2 ?_|refine wD5 ?_)<;>(try simp only [nx,q4,rn,fq,Nat.mul_one,Bool.and_true,Bool.and_false,Nat.reduceBEq,Nat.reduceAdd,Nat.reduceSub,BEq.rfl]))|refine wT5 ?_|with_reducible intro Q' hQ'|(refine GC ?_;refine ⟨fun hc=>?_,fun hc=>?_⟩)|simp only [la])
  exact ⟨_,by exact Gh.W⟩
 ·simp only [List.length_map];rw [List.take_of_length_le (Nat.le_refl _)];generalize foldB h.n (chS p)=m
  repeat' (first|((first|refine wA7 ?_|refine wA2 ?_|refine wD5 ?_)<;>(try simp only [nx,q4,rn,fq,Nat.mul_one,Bool.and_true,Bool.and_false,Nat.reduceBEq,Nat.reduceAdd,Nat.reduceSub,BEq.rfl]))|refine wT5 ?_|with_reducible intro Q' hQ'|(refine GC ?_;refine ⟨fun hc=>?_,fun hc=>?_⟩)|simp only [la])
  refine cp_loopS [8,9,46,47,48,49,50,51,52,53,54,55,56] (fun a:Nat=>8 - a) (fun a=>a≤8) (fun a=>[(46,I a)]) (fun a=>[(3,⟨3,.c 54 (mixT (wordsB m) (4 * a))⟩)]) 0 (Nat.zero_le _) (by exact Gh.W) ?_;intro i hi;simp only [setT,deT,setB,List.set_cons_succ,List.set_cons_zero]
  by_cases hlt:i < 8
  ·have hw:IntKind.i64.wrap ((i:Int) + 1)=((i + 1:Nat):Int):=wrap_i64 (by omega) (by omega);have hw4:IntKind.i64.wrap (4 * (i:Int))=((4 * i:Nat):Int):=wrap_i64 (by omega) (by omega);have d8:decide ((i:Int) < 8)=true:=by simp;omega
   have hx:=mw_at m hlt;have hset:=mix_cpy m hlt;have hlen:=mixT_len (wordsB m) (4 * i);generalize mw m i=x at *;have h5:=p32_ac x
   repeat' (first|((first|refine wA7 ?_|refine wA2 ?_|refine wD5 ?_)<;>(try simp only [hw4,d8,Int.toNat_natCast,nx,q4,rn,fq,Nat.mul_one,Bool.and_true,Bool.and_false,Nat.reduceBEq,Nat.reduceAdd,Nat.reduceSub,BEq.rfl]))|refine wT5 ?_|with_reducible intro Q' hQ'|(refine GC ?_;refine ⟨fun hc=>?_,fun hc=>?_⟩)|simp only [la])
   have hm:min 4 (32 - 4 * i)=4:=by omega
   simp only [hw,hm];exact ⟨i + 1,by omega,by omega,by (rw [←hset];exact Gh.W)⟩
  ·obtain rfl:i=8:=by omega
   rw [show 4 * 8=32 from rfl,mixT_32]
   repeat' (first|((first|refine wA7 ?_|refine wA2 ?_|refine wD5 ?_)<;>(try simp only [nx,q4,rn,fq,Nat.mul_one,Bool.and_true,Bool.and_false,Nat.reduceBEq,Nat.reduceAdd,Nat.reduceSub,BEq.rfl]))|refine wT5 ?_|with_reducible intro Q' hQ'|(refine GC ?_;refine ⟨fun hc=>?_,fun hc=>?_⟩)|simp only [la])
   (exact RetQ.A [(0,0)] (by exact ⟨rfl,rfl⟩))
/-- the tag of some bytes -/
def shaS (b:List UInt8):List UInt8:=sumS (writeS ⟨s8z,[],0⟩ b)
theorem sha_ac (b:List UInt8) (hb:b.length≤1000000):AC Tryz.prog 164 [bs none b] [] (fun v bs'=>v=tg (shaS b)∧bs'=[]):=by
 have h1:=hnew_ac;have h2:=hwrite_ac ⟨s8z,[],0⟩ b (by simp) (by omega) (by simp);have h3:=hsum_ac (writeS ⟨s8z,[],0⟩ b) (by simp [writeS];omega) (by simp [writeS];omega);unfold shaS;generalize writeS ⟨s8z,[],0⟩ b=st at *;generalize sumS st=t at *;refine AC.N Tryz.func164 Tryz.ntmps164 ?_;intro X hρ hmks;refine NX ?_
 repeat' (first|((first|refine wA7 ?_|refine wA2 ?_)<;>(try simp only [nx,q4,rn,fq,Nat.mul_one,Bool.and_true,Bool.and_false,Nat.reduceBEq,Nat.reduceAdd,Nat.reduceSub,BEq.rfl]))|refine wT4 ?_|with_reducible intro Q' hQ'|(refine GC ?_;refine ⟨fun hc=>?_,fun hc=>?_⟩)|simp only [la])
 (exact RetQ.A [] (by exact ⟨rfl,rfl⟩))
def nzS (n:Nat):Nat:=(119 - n % 64) % 64
def wholeS (b:List UInt8):List UInt8:=b ++ [0x80] ++ List.replicate (nzS b.length) 0 ++ putS (8 * b.length) 8
theorem whole_ac (b:List UInt8) (hb:b.length≤10000000):AC Tryz.prog 233 [bs none b] [] (fun v bs'=>v=bs none (wholeS b)∧bs'=[]):=by
 have hwu:IntKind.u64.wrap (b.length:Int)=(b.length:Int):=wrap_u64 (by omega) (by omega);have hwu8:IntKind.u64.wrap (8 * (b.length:Int))=((8 * b.length:Nat):Int):=by rw [wrap_u64 (by omega) (by omega)];omega
 have hnzS:nzS b.length < 64:=Nat.mod_lt _ (by omega);have h1:=copy_ac b (by omega);have h2:=(rput_ac (8 * b.length) 8 (by omega) (by omega)).ro (r2:=bs none (putS (8 * b.length) 8)) (by simp only [AV.ro,ro_B]);have h3:=(cat_ac (b ++ [0x80] ++ List.replicate (nzS b.length) 0) (putS (8 * b.length) 8) (by simp;omega) (by simp [putS_length])).ro (r2:=bs none (wholeS b)) (by simp only [AV.ro,ro_B];rfl);refine AC.N Tryz.func233 Tryz.ntmps233 ?_;intro X hρ hmks;refine NX ?_;refine CP.gh gh_slot ?_;refine NX ?_
 have hl0:(b.map eB).length + 1≤1000000000:=by simp;omega
 repeat' (first|((first|refine wA4 ?_|(refine GV ?_;intro c hnil;simp only [nz])|refine wA9 ?_|refine wA2 ?_)<;>(try simp only [nx,q4,rn,fq,Nat.mul_one,Bool.and_true,Bool.and_false,Nat.reduceBEq,Nat.reduceAdd,Nat.reduceSub,BEq.rfl]))|refine wT4 ?_|with_reducible intro Q' hQ'|(refine GC ?_;refine ⟨fun hc=>?_,fun hc=>?_⟩)|simp only [la])
 refine cp_loopS [3,9,10,11,12,13,14,15] (fun a:Nat×Nat×Nat=>nzS b.length - a.1) (fun a=>a.1≤nzS b.length) (fun a=>[(3,.hd 0 a.2.1)]) (fun a=>[(0,⟨a.2.1,.r tU 1 ((b ++ [0x80] ++ List.replicate a.1 0).map eB)⟩),(1,⟨a.2.2,.x⟩)]) (0,2,1) (Nat.zero_le _) (by (simp only [List.replicate_zero,List.append_nil,List.map_append];exact Gh.W)) ?_;rintro ⟨k,u,v⟩ hk;simp only [setT,deT,setB,List.set_cons_succ,List.set_cons_zero];dsimp only at hk;have hln:(b ++ [0x80] ++ List.replicate k 0).length=b.length + 1 + k:=by simp;omega
 have hln2:((b ++ [0x80] ++ List.replicate k 0).map eB).length=b.length + 1 + k:=by simp;omega
 have hm:Int.tmod ((b.length + 1 + k:Nat):Int) 64=(((b.length + 1 + k) % 64:Nat):Int):=rfl
 by_cases hlt:k < nzS b.length
 ·have d1:((((b.length + 1 + k) % 64:Nat):Int) != 56)=true:=by
   unfold nzS at hlt;simp;omega
  have hsn:(b ++ [0x80] ++ List.replicate k 0).map eB ++ [[U 0]]=(b ++ [0x80] ++ List.replicate (k + 1) 0).map eB:=by
   rw [List.replicate_succ'];simp
  clear h1 h2 h3;generalize (b ++ [0x80] ++ List.replicate k 0).map eB=W at *;have hlen2:W.length + 1≤1000000000:=by omega
  repeat' (first|((first|refine wA4 ?_|(refine GV ?_;intro c hnil;simp only [nz])|refine wA9 ?_|refine wA2 ?_)<;>(try simp only [hln,hln2,hm,d1,nx,q4,rn,fq,Nat.mul_one,Bool.and_true,Bool.and_false,Nat.reduceBEq,Nat.reduceAdd,Nat.reduceSub,BEq.rfl]))|refine wT4 ?_|with_reducible intro Q' hQ'|(refine GC ?_;refine ⟨fun hc=>?_,fun hc=>?_⟩)|simp only [la])
  refine ⟨(k + 1,u + 1,v + 1),by (dsimp only;omega),by (dsimp only;omega),?_⟩;dsimp only;rw [←hsn];exact Gh.W
 ·obtain rfl:k=nzS b.length:=by omega
  have d1:((((b.length + 1 + nzS b.length) % 64:Nat):Int) != 56)=false:=by
   unfold nzS;simp;omega
  generalize (b ++ [0x80] ++ List.replicate (nzS b.length) 0)=W at *
  repeat' (first|((first|refine wA4 ?_|(refine GV ?_;intro c hnil;simp only [nz])|refine wA9 ?_|refine wA2 ?_)<;>(try simp only [hln,hln2,hm,d1,hwu,hwu8,nx,q4,rn,fq,Nat.mul_one,Bool.and_true,Bool.and_false,Nat.reduceBEq,Nat.reduceAdd,Nat.reduceSub,BEq.rfl]))|refine wT4 ?_|with_reducible intro Q' hQ'|(refine GC ?_;refine ⟨fun hc=>?_,fun hc=>?_⟩)|simp only [la])
  (exact RetQ.A [] (by exact ⟨rfl,rfl⟩))
theorem u32_ext {a b:UInt32} (h:∀ i,i < 32→a.toBitVec.getLsbD i=b.toBitVec.getLsbD i):a=b:=by
 have:a.toBitVec=b.toBitVec:=BitVec.eq_of_getLsbD_eq h
 cases a;cases b;simp_all
theorem ch_eq (e f g:UInt32):(e &&& f) ^^^ (~~~e &&& g)=(e &&& f ||| ~~~e &&& g):=by
 apply u32_ext;intro i hi;simp only [UInt32.toBitVec_xor,UInt32.toBitVec_and,UInt32.toBitVec_or,UInt32.toBitVec_not,BitVec.getLsbD_xor,BitVec.getLsbD_and,BitVec.getLsbD_or,BitVec.getLsbD_not,hi,decide_true,Bool.true_and]
 cases e.toBitVec.getLsbD i<;>cases f.toBitVec.getLsbD i<;>cases g.toBitVec.getLsbD i<;>rfl
theorem maj_eq (a b c:UInt32):(a &&& b) ^^^ (a &&& c) ^^^ (b &&& c)=(a &&& b ||| a &&& c ||| b &&& c):=by
 apply u32_ext;intro i hi;simp only [UInt32.toBitVec_xor,UInt32.toBitVec_and,UInt32.toBitVec_or,BitVec.getLsbD_xor,BitVec.getLsbD_and,BitVec.getLsbD_or]
 cases a.toBitVec.getLsbD i<;>cases b.toBitVec.getLsbD i<;>cases c.toBitVec.getLsbD i<;>rfl
theorem chS_app {x:List UInt8} {q:Nat} (h:x.length=64 * q) (y:List UInt8):chS (x ++ y)=chS x ++ chS y:=by
 have hl:(x ++ y).length / 64=q + y.length / 64:=by simp [h];omega
 have hq:x.length / 64=q:=by omega
 unfold chS;rw [hl,hq,List.range_add,List.map_append,List.map_map]
 congr 1
 ·apply List.map_congr_left;intro i hi;have hi:=List.mem_range.1 hi;rw [List.drop_append_of_le_length (by omega),List.take_append_of_le_length (by simp;omega)]
 ·apply List.map_congr_left;intro i hi
  show ((x ++ y).drop (64 * (q + i))).take 64=_
  rw [List.drop_append,List.drop_of_length_le (by omega),List.nil_append,show 64 * (q + i) - x.length=64 * i by omega]
theorem chS_of (b:List UInt8):chS b=chS (b.take (b.length / 64 * 64)):=by
 have hl:(b.take (b.length / 64 * 64)).length / 64=b.length / 64:=by rw [List.length_take];omega
 unfold chS;rw [hl];apply List.map_congr_left;intro i hi;have hi:=List.mem_range.1 hi;rw [List.drop_take,List.take_take,show min 64 (b.length / 64 * 64 - 64 * i)=64 by omega]
theorem shaS_eq (b:List UInt8):shaS b=wordsB (foldB s8z (chS (wholeS b))):=by
 have e1:wholeS b=b.take (b.length / 64 * 64) ++ padS (b.drop (b.length / 64 * 64)) b.length:=by
  have h2:(b.drop (b.length / 64 * 64)).length=b.length % 64:=by rw [List.length_drop];omega
  unfold wholeS padS nzS;rw [h2];simp only [List.flatten_cons,List.flatten_nil,List.append_nil,List.append_assoc];rw [←List.append_assoc (List.take _ _),List.take_append_drop]
 have e2:shaS b=wordsB (foldB (foldB s8z (chS b)) (chS (padS (b.drop (b.length / 64 * 64)) b.length))):=by
  simp only [shaS,sumS,writeS,List.nil_append,Nat.zero_add]
 rw [e2,e1,chS_app (q:=b.length / 64) (by rw [List.length_take];omega),←chS_of];unfold foldB;rw [List.foldl_append]
theorem whole_len (b:List UInt8):∃ m,(wholeS b).length=64 * m∧(wholeS b).length≤b.length + 100:=by
 have:(wholeS b).length=b.length + 1 + nzS b.length + 8:=by simp [wholeS,putS_length];omega
 have h:nzS b.length < 64:=Nat.mod_lt _ (by omega);refine ⟨(b.length + 1 + nzS b.length + 8) / 64,?_,by omega⟩;rw [this];unfold nzS;omega
abbrev eN (s:S8):List (List AV):=[eQ s.a,eQ s.b,eQ s.c,eQ s.d,eQ s.e,eQ s.f,eQ s.g,eQ s.h]
theorem eN_at (m:S8) {i:Nat} (h:i < 8):(eN m)[i]? = some (eQ (mw m i)):=by
 rcases i with _ | _ | _ | _ | _ | _ | _ | _|i<;>first|rfl|(exfalso;omega)
theorem wb_at (m:S8) {i k:Nat} (h:i < 8) (hk:k < 4):(wordsB m)[4 * i + k]? = (putS (mw m i).toNat 4)[k]?:=by
 rcases i with _ | _ | _ | _ | _ | _ | _ | _|i<;>rcases k with _ | _ | _ | _|k<;>first|rfl|(exfalso;omega)
theorem kQ_at {i:Nat} (h:i < 64):(K32.map eQ)[i]? = some (eQ (K32.getD i 0)):=by
 have:K32.length=64:=rfl;simp [List.getD_eq_getElem?_getD,List.getElem?_eq_getElem (show i < K32.length by omega)]
theorem dsha_ac (b:List UInt8) (hb:b.length≤1000000):AC Tryz.prog 215 [bs none b] [] (fun v bs'=>v=tg (shaS b)∧bs'=[]):=by
 have h1:=whole_ac b (by omega);have h2:=(dconstants_ac).ro (r2:=.sl none 1 (K32.map eQ)) (by simp only [AV.ro,ro_Q]);rw [shaS_eq];obtain ⟨m,hm1,hm2⟩:=whole_len b;generalize wholeS b=all at *;refine AC.N Tryz.func215 Tryz.ntmps215 ?_;intro X hρ hmks;refine NX ?_;refine CP.gh gh_slot ?_;refine NX ?_
 repeat' (first|((first|refine wA7 ?_|((with_reducible apply AP.k_any);first|refine AP.E ?_|refine AP.T ?_)|refine wA2 ?_|refine wD5 ?_)<;>(try simp only [nx,q4,rn,fq,Nat.mul_one,Bool.and_true,Bool.and_false,Nat.reduceBEq,Nat.reduceAdd,Nat.reduceSub,BEq.rfl]))|refine wT5 ?_|with_reducible intro Q' hQ'|(refine GC ?_;refine ⟨fun hc=>?_,fun hc=>?_⟩)|simp only [la])
 have hgk:∀ i,i < 64→(K32.map eQ)[i]? = some (eQ (K32.getD i 0)):=fun i h=>kQ_at h
 have hkl:(K32.map eQ).length=64:=rfl;generalize K32.map eQ=KK at *;refine cp_loopS [6,7,8,9,10,11,12,13,14,15,16,17,18,19,20,29,30,31,32,33,34,35,36,37,38,39,40,41,42,43,44,45,46,47,48,49,50,51,52,53,54,55,56,57,58,59,60,61,62,63,64,65,66,67,68,69,70,71,72,73,74,75,76,77,78,79,80,81,82,83,84,85,86,87,88,89,90,91,92,93,94,95,96,97,98,99,100,101,102,103,104,105,106,107,108,109,110,111,112,113,114,115,116,117,118,119,120,121,122,123,124,125,126,127,128,129,130,131,132,133,134,135,136,137,138,139,140,141,142,143,144,145,146,147,148,149,150,151,152,153,154,155,156,157,158,159,160,161,162,163,164,165,166,167,168,169,170,171,172,173,174,175] (fun a:Nat=>m - a) (fun a=>a≤m) (fun a=>[(6,I ((64 * a:Nat):Int))]) (fun a=>[(1,⟨1,.r tQ 1 (eN (foldB s8z ((chS all).take a)))⟩)]) 0 (Nat.zero_le _) (by exact Gh.W) ?_;clear h1 h2;intro i hi;simp only [setT,deT,setB,List.set_cons_succ,List.set_cons_zero]
 by_cases hlt:i < m
 ·have hw:IntKind.i64.wrap (((64 * i:Nat):Int) + 64)=((64 * (i + 1):Nat):Int):=by rw [wrap_i64 (by omega) (by omega)];omega
  have d0:decide (((64 * i:Nat):Int) < (all.length:Int))=true:=by simp;omega
  have hc:(chS all)[i]? = some ((all.drop (64 * i)).take 64):=by
   have:i < all.length / 64:=by omega
   simp [chS,this]
  have hs:=foldB_take (n:=s8z) hc;have hcl:((all.drop (64 * i)).take 64).length=64:=by simp;omega
  have hsl:List.take (64 * (i + 1) - 64 * i) (List.drop (64 * i) all)=(all.drop (64 * i)).take 64:=by congr 1;omega
  generalize foldB s8z (List.take i (chS all))=n at *;generalize (all.drop (64 * i)).take 64=c at *;have h3:=(schedule_ac c hcl).ro (r2:=.sl none 1 ((wS c 64).map eQ)) (by simp only [AV.ro,ro_Q])
  repeat' (first|((first|refine wA7 ?_|((with_reducible apply AP.k_any);first|refine AP.E ?_|refine AP.T ?_)|refine wA2 ?_|refine wD5 ?_)<;>(try simp only [hw,d0,hsl,Int.toNat_natCast,nx,q4,rn,fq,Nat.mul_one,Bool.and_true,Bool.and_false,Nat.reduceBEq,Nat.reduceAdd,Nat.reduceSub,BEq.rfl]))|refine wT5 ?_|with_reducible intro Q' hQ'|(refine GC ?_;refine ⟨fun hc=>?_,fun hc=>?_⟩)|simp only [la])
  have hgw:∀ i,i < 64→((wS c 64).map eQ)[i]? = some (eQ ((wS c 64).getD i 0)):=fun i h=>wQ_at c h
  have hwl:=wQ_len c 64;generalize (wS c 64).map eQ=WW at *;refine cp_loopS [8,9,10,11,12,13,14,15,16,17,18,19,20,65,66,67,68,69,70,71,72,73,74,75,76,77,78,79,80,81,82,83,84,85,86,87,88,89,90,91,92,93,94,95,96,97,98,99,100,101,102,103,104,105,106,107,108,109,110,111,112,113,114,115,116,117,118,119] (fun a:Nat=>64 - a) (fun a=>a≤64) (fun a=>[(16,I a),(8,Q4 (rS n c a).a),(9,Q4 (rS n c a).b),(10,Q4 (rS n c a).c),(11,Q4 (rS n c a).d),(12,Q4 (rS n c a).e),(13,Q4 (rS n c a).f),(14,Q4 (rS n c a).g),(15,Q4 (rS n c a).h)]) (fun _=>[]) 0 (Nat.zero_le _) (by exact Gh.W) ?_;intro t ht;simp only [setT,deT,setB,List.set_cons_succ,List.set_cons_zero]
  by_cases htt:t < 64
  ·have hw1:IntKind.i64.wrap ((t:Int) + 1)=((t + 1:Nat):Int):=wrap_i64 (by omega) (by omega);have d64:decide ((t:Int) < 64)=true:=by simp;omega
   have hr:rS n c (t + 1)=rnd (rS n c t) (K32.getD t 0) ((wS c 64).getD t 0):=rfl;have gk:=hgk t htt;have gw:=hgw t htt;generalize rS n c t=s at *;generalize K32.getD t 0=k at *;generalize (wS c 64).getD t 0=w at *;have h1:=dturns_ac s.e 6 11 25 (by omega) (by omega) (by omega);have h2:=dturns_ac s.a 2 13 22 (by omega) (by omega) (by omega)
   repeat' (first|((first|refine wA7 ?_|((with_reducible apply AP.k_any);first|refine AP.E ?_|refine AP.T ?_)|refine aC1 h1 ?_|refine aC1 h2 ?_|refine wA2 ?_|refine wD5 ?_|refine dC1 h1 ?_|refine dC1 h2 ?_)<;>(try simp only [d64,ch_eq,maj_eq,nx,q4,rn,fq,Nat.mul_one,Bool.and_true,Bool.and_false,Nat.reduceBEq,Nat.reduceAdd,Nat.reduceSub,BEq.rfl]))|refine wT5 ?_|with_reducible intro Q' hQ'|(refine GC ?_;refine ⟨fun hc=>?_,fun hc=>?_⟩)|simp only [la])
   simp only [hw1];exact ⟨t + 1,by omega,by omega,by (rw [hr];exact Gh.W)⟩
  ·obtain rfl:t=64:=by omega
   have d64:decide (((64:Nat):Int) < 64)=false:=by simp
   have hbl:blockS n c=⟨n.a + (rS n c 64).a,n.b + (rS n c 64).b,n.c + (rS n c 64).c,n.d + (rS n c 64).d,n.e + (rS n c 64).e,n.f + (rS n c 64).f,n.g + (rS n c 64).g,n.h + (rS n c 64).h⟩:=rfl;generalize rS n c 64=s at *
   repeat' (first|((first|refine wA7 ?_|((with_reducible apply AP.k_any);first|refine AP.E ?_|refine AP.T ?_)|refine wA2 ?_|refine wD5 ?_)<;>(try simp only [d64,hw,nx,q4,rn,fq,Nat.mul_one,Bool.and_true,Bool.and_false,Nat.reduceBEq,Nat.reduceAdd,Nat.reduceSub,BEq.rfl]))|refine wT5 ?_|with_reducible intro Q' hQ'|(refine GC ?_;refine ⟨fun hc=>?_,fun hc=>?_⟩)|simp only [la])
   exact ⟨i + 1,by omega,by omega,by (rw [hs,hbl];exact Gh.W)⟩
 ·obtain rfl:i=m:=by omega
  have d0:decide (((64 * i:Nat):Int) < (all.length:Int))=false:=by simp;omega
  have htk:(chS all).take i=chS all:=List.take_of_length_le (by simp [chS];omega);rw [htk];generalize foldB s8z (chS all)=n at *
  repeat' (first|((first|refine wA7 ?_|((with_reducible apply AP.k_any);first|refine AP.E ?_|refine AP.T ?_)|refine wA2 ?_|refine wD5 ?_)<;>(try simp only [d0,nx,q4,rn,fq,Nat.mul_one,Bool.and_true,Bool.and_false,Nat.reduceBEq,Nat.reduceAdd,Nat.reduceSub,BEq.rfl]))|refine wT5 ?_|with_reducible intro Q' hQ'|(refine GC ?_;refine ⟨fun hc=>?_,fun hc=>?_⟩)|simp only [la])
  refine cp_loopS [22,23,24,176,177,178,179,180,181,182,183,184,185,186,187,188,189,190,191,192,193,194,195,196,197,198] (fun a:Nat=>8 - a) (fun a=>a≤8) (fun a=>[(22,I a)]) (fun a=>[(2,⟨1,.c 54 (mixT (wordsB n) (4 * a))⟩)]) 0 (Nat.zero_le _) (by exact Gh.W) ?_;intro j hj;simp only [setT,deT,setB,List.set_cons_succ,List.set_cons_zero]
  by_cases hjj:j < 8
  ·have hwj:IntKind.i64.wrap ((j:Int) + 1)=((j + 1:Nat):Int):=wrap_i64 (by omega) (by omega);have hw4:IntKind.i64.wrap (4 * (j:Int))=((4 * j:Nat):Int):=wrap_i64 (by omega) (by omega);have d8:decide ((j:Int) < 8)=true:=by simp;omega
   have gn:=eN_at n hjj;have hwb:∀ k,k < 4→(wordsB n)[4 * j + k]? = (putS (mw n j).toNat 4)[k]?:=fun k hk=>wb_at n hjj hk
   have hwl:(wordsB n).length=32:=rfl;have h5:=(rput_ac (mw n j).toNat 4 (by omega) (by have:=u32_lt (mw n j);omega)).ro (r2:=bs none (putS (mw n j).toNat 4)) (by simp only [AV.ro,ro_B]);have hpl:=putS_length (mw n j).toNat 4;generalize putS (mw n j).toNat 4=y at *;generalize mw n j=x at *;generalize wordsB n=z at *
   repeat' (first|((first|refine wA7 ?_|((with_reducible apply AP.k_any);first|refine AP.E ?_|refine AP.T ?_)|refine wA2 ?_|refine wD5 ?_)<;>(try simp only [d8,nx,q4,rn,fq,Nat.mul_one,Bool.and_true,Bool.and_false,Nat.reduceBEq,Nat.reduceAdd,Nat.reduceSub,BEq.rfl]))|refine wT5 ?_|with_reducible intro Q' hQ'|(refine GC ?_;refine ⟨fun hc=>?_,fun hc=>?_⟩)|simp only [la])
   refine cp_loopS [24,186,187,188,189,190,191,192,193,194,195,196,197,198] (fun k:Nat=>4 - k) (fun k=>k≤4) (fun k=>[(24,I k)]) (fun k=>[(2,⟨1,.c 54 (mixT z (4 * j + k))⟩)]) 0 (Nat.zero_le _) (by exact Gh.W) ?_;intro k hk;simp only [setT,deT,setB,List.set_cons_succ,List.set_cons_zero]
   by_cases hkk:k < 4
   ·have hwk:IntKind.i64.wrap ((k:Int) + 1)=((k + 1:Nat):Int):=wrap_i64 (by omega) (by omega);have hwa:IntKind.i64.wrap (((4 * j:Nat):Int) + (k:Int))=((4 * j + k:Nat):Int):=wrap_i64 (by omega) (by omega);have d4:decide ((k:Int) < 4)=true:=by simp;omega
    have hset:=mixT_set (l:=z) (i:=4 * j + k) (by omega)
    have hzk:z[4 * j + k]'(by omega)=y[k]'(by omega):=by
     have:=hwb k hkk;rw [List.getElem?_eq_getElem (by omega),List.getElem?_eq_getElem (by omega)] at this;exact Option.some.inj this
    rw [hzk] at hset;have hyk:(y.map eB)[k]? = some (eB (y[k]'(by omega))):=by simp [show k < y.length by omega]
    generalize y[k]'(by omega)=c at *;have hml:=mixT_len z (4 * j + k)
    repeat' (first|((first|refine wA7 ?_|((with_reducible apply AP.k_any);first|refine AP.E ?_|refine AP.T ?_)|refine wA2 ?_|refine wD5 ?_)<;>(try simp only [d4,hw4,hwa,Int.toNat_natCast,nx,q4,rn,fq,Nat.mul_one,Bool.and_true,Bool.and_false,Nat.reduceBEq,Nat.reduceAdd,Nat.reduceSub,BEq.rfl]))|refine wT5 ?_|with_reducible intro Q' hQ'|(refine GC ?_;refine ⟨fun hc=>?_,fun hc=>?_⟩)|simp only [la])
    simp only [hwk];exact ⟨k + 1,by omega,by omega,by (rw [show 4 * j + (k + 1)=4 * j + k + 1 from rfl,←hset];exact Gh.W)⟩
   ·obtain rfl:k=4:=by omega
    have d4:decide (((4:Nat):Int) < 4)=false:=by simp
    repeat' (first|((first|refine wA7 ?_|((with_reducible apply AP.k_any);first|refine AP.E ?_|refine AP.T ?_)|refine wA2 ?_|refine wD5 ?_)<;>(try simp only [d4,hwj,nx,q4,rn,fq,Nat.mul_one,Bool.and_true,Bool.and_false,Nat.reduceBEq,Nat.reduceAdd,Nat.reduceSub,BEq.rfl]))|refine wT5 ?_|with_reducible intro Q' hQ'|(refine GC ?_;refine ⟨fun hc=>?_,fun hc=>?_⟩)|simp only [la])
    exact ⟨j + 1,by omega,by omega,by (rw [show 4 * (j + 1)=4 * j + 4 from rfl];exact Gh.W)⟩
  ·obtain rfl:j=8:=by omega
   have d8:decide (((8:Nat):Int) < 8)=false:=by simp
   rw [show 4 * 8=32 from rfl,mixT_32]
   repeat' (first|((first|refine wA7 ?_|((with_reducible apply AP.k_any);first|refine AP.E ?_|refine AP.T ?_)|refine wA2 ?_|refine wD5 ?_)<;>(try simp only [d8,nx,q4,rn,fq,Nat.mul_one,Bool.and_true,Bool.and_false,Nat.reduceBEq,Nat.reduceAdd,Nat.reduceSub,BEq.rfl]))|refine wT5 ?_|with_reducible intro Q' hQ'|(refine GC ?_;refine ⟨fun hc=>?_,fun hc=>?_⟩)|simp only [la])
   (exact RetQ.A [] (by exact ⟨rfl,rfl⟩))
def xorS (a b:List UInt8):List UInt8:=List.zipWith (fun x y=>x ^^^ y) a b
theorem wrap_u8 {n:Nat} (h:n < 256):IntKind.u8.wrap (n:Int)=n:=by
 simp [IntKind.wrap,IntKind.bits,IntKind.signed];omega
theorem xor8 (x y:UInt8):IntKind.u8.wrap ((BitVec.toNat (BitVec.ofInt 8 (x.toNat:Int) ^^^ BitVec.ofInt 8 (y.toNat:Int)):Nat):Int)=((x ^^^ y).toNat:Int):=by
 have hx:BitVec.ofInt 8 (x.toNat:Int)=x.toBitVec:=by apply BitVec.eq_of_toNat_eq;simp
 have hy:BitVec.ofInt 8 (y.toNat:Int)=y.toBitVec:=by apply BitVec.eq_of_toNat_eq;simp
 rw [hx,hy];have h:(x.toBitVec ^^^ y.toBitVec).toNat=(x ^^^ y).toNat:=rfl;rw [h];exact wrap_u8 (x ^^^ y).toNat_lt
theorem or8b (x y:UInt8):IntKind.u8.wrap ((BitVec.toNat (BitVec.ofInt 8 (x.toNat:Int) ||| BitVec.ofInt 8 (y.toNat:Int)):Nat):Int)=((x ||| y).toNat:Int):=by
 have hx:BitVec.ofInt 8 (x.toNat:Int)=x.toBitVec:=by apply BitVec.eq_of_toNat_eq;simp
 have hy:BitVec.ofInt 8 (y.toNat:Int)=y.toBitVec:=by apply BitVec.eq_of_toNat_eq;simp
 rw [hx,hy];have h:(x.toBitVec ||| y.toBitVec).toNat=(x ||| y).toNat:=rfl;rw [h];exact wrap_u8 (x ||| y).toNat_lt
def xst (a b:List UInt8) (k:Nat):List UInt8:=(xorS a b).take k ++ a.drop k
theorem xst_len {a b:List UInt8} (h:a.length=b.length) (k:Nat):(xst a b k).length=a.length:=by simp [xst,xorS];omega
theorem xst_at {a b:List UInt8} (h:a.length=b.length) {k:Nat} (hk:k < a.length):(xst a b k)[k]? = some a[k]:=by
 unfold xst;rw [List.getElem?_append_right (by simp [xorS];omega)];simp [xorS];rw [show k + (k - min k (min a.length b.length))=k by omega];simp [hk]
theorem xst_set {a b:List UInt8} (h:a.length=b.length) {k:Nat} (hk:k < a.length):(xst a b k).set k (a[k] ^^^ b[k]'(by omega))=xst a b (k + 1):=by
 have hl:((xorS a b).take k).length=k:=by simp [xorS];omega
 unfold xst;rw [List.set_append_right _ _ (by omega),hl,Nat.sub_self,List.drop_eq_getElem_cons hk,List.set_cons_zero,List.take_succ_eq_append_getElem (by simp [xorS];omega)];simp [xorS]
theorem wD6 {G G':Prop} (K:G') (h:G'→G:=by (intro kz;(with_reducible apply DW.k_any);first|exact DW.R kz|exact DW.R' kz|exact DW.W kz|exact DW.W' kz)):G:=h K
theorem xor_ac (a b:List UInt8) (h:a.length=b.length) (hl:a.length≤100000000):AC Tryz.prog 162 [bs none a,bs none b] [] (fun v bs'=>v=bs (some tU) (xorS a b)∧bs'=[]):=by
 have hc:=wcat_ac [a] (by simp) (by simp;omega);have hm:(if (b.length:Int) < (a.length:Int) then (b.length:Int) else (a.length:Int))=(a.length:Int):=by rw [if_neg (by omega)]
 refine AC.N Tryz.func162 Tryz.ntmps162 ?_;intro X hρ hmks;refine NX ?_
 repeat' (first|((first|refine wA4 ?_|((with_reducible apply AP.k_any);first|refine AP.E ?_|refine AP.T ?_)|((with_reducible apply AP.k_any);simp only [hm,Int.toNat_natCast,List.take_length];refine ap_callX rfl rfl (fn:=76) rfl (hc) (by (repeat' (first|exact PasC.nil|apply PasC.nil|apply PasC.cons|apply PasV.leaf rfl|apply PasV.nl|apply PasV.bp rfl|apply PasV.vp rfl|apply PasV.pz|exact VsM.nil|apply VsM.cons rfl|apply PasV.lend rfl rfl rfl|apply PasV.lend rfl rfl (ro_B _)|apply PasV.lend rfl rfl (ro_M _)|apply PasV.lend rfl rfl (ro_E _ _)|apply PasV.lend rfl rfl (ro_I _)|apply PasV.lend rfl rfl (by (simp only [rn,List.map_cons,List.map_nil];first|done|rfl))|apply PasV.mv rfl|apply PasV.hk rfl|apply PasV.ag|apply PasV.fn|exact PasV.fs|apply PasV.any|exact rfl))) rfl rfl ?_)|((with_reducible apply AP.k_any);refine AP.gh (gh_fz (b:=0) (u:=1) rfl rfl (by (repeat' (first|exact FzC.nil|apply FzC.cons|exact FzV.hd|apply FzV.ag|exact FzV.same))) (by (repeat' (first|exact FzB.nil|apply FzB.c|apply FzB.same|exact FzC.nil|apply FzC.cons|exact FzV.hd|apply FzV.ag|exact FzV.same)))) ?_;first|simp only [roE,roC,AV.ro,ro_B,ro_M,ro_E]|simp only [roE,roC,AV.ro,ro_B]))<;>(try refine NX ?_))|refine wT4 ?_|with_reducible intro Q' hQ'|(refine GC ?_;refine ⟨fun hc=>?_,fun hc=>?_⟩)|simp only [la])
 simp only [List.flatten_cons,List.flatten_nil,List.append_nil];refine cp_loopS [6,18,19,20,21,22,23,24,25,26,27,28,29,30,31] (fun k:Nat=>a.length - k) (fun k=>k≤a.length) (fun k=>[(18,I k),(17,I a.length)]) (fun k=>[(0,⟨2,.r tU 1 ((xst a b k).map eB)⟩)]) 0 (Nat.zero_le _) (by exact Gh.W) ?_;rintro k hk;simp only [setT,deT,setB,List.set_cons_succ,List.set_cons_zero];have hxl:=xst_len h k
 by_cases hlt:k < a.length
 ·have hw:IntKind.i64.wrap ((k:Int) + 1)=((k + 1:Nat):Int):=wrap_i64 (by omega) (by omega);have hkb:k < b.length:=by omega
  have hxa:(xst a b k)[k]=a[k]:=by have:=xst_at h hlt;rw [List.getElem?_eq_getElem (by omega)] at this;simpa using this
  have hset:=xst_set h hlt;have hx8:IntKind.u8.wrap (((BitVec.ofInt IntKind.u8.bits (a[k].toNat:Int)) ^^^ (BitVec.ofInt IntKind.u8.bits (b[k].toNat:Int))).toNat:Int)=((a[k] ^^^ b[k]).toNat:Int):=xor8 a[k] b[k]
  repeat' (first|((first|refine wA4 ?_|((with_reducible apply AP.k_any);first|refine AP.E ?_|refine AP.T ?_)|refine wD6 ?_)<;>(try refine NX ?_))|refine wT5 ?_|with_reducible intro Q' hQ'|(refine GC ?_;refine ⟨fun hc=>?_,fun hc=>?_⟩)|simp only [la])
  ·simp only [hw,hxa,hx8];rw [show ∀ y:UInt8,[AV.sc (.int .u8 (y.toNat:Int))]=eB y from fun _=>rfl,←List.map_set,hset];exact ⟨k + 1,by omega,by omega,by exact Gh.W⟩
  ·exfalso;simp at *;omega
 ·obtain rfl:k=a.length:=by omega
  have e1:xst a b a.length=xorS a b:=by unfold xst;rw [List.drop_length,List.append_nil,List.take_of_length_le (by simp [xorS];omega)]
  rw [e1] at hxl ⊢
  repeat' (first|((first|refine wA4 ?_|((with_reducible apply AP.k_any);first|refine AP.E ?_|refine AP.T ?_)|refine wD6 ?_)<;>(try refine NX ?_))|refine wT5 ?_|with_reducible intro Q' hQ'|(refine GC ?_;refine ⟨fun hc=>?_,fun hc=>?_⟩)|simp only [la])
  all_goals first
   | (exfalso;simp at *;done)
   | (exfalso;simp at *;omega)
   | (refine RetQ.B [] ?_;(try dsimp only [resV,List.getD_cons_succ,List.getD_cons_zero]);(exact ⟨rfl,rfl⟩))
def orS (l:List UInt8):UInt8:=l.foldl (fun x y=>x ||| y) 0
theorem orS_snoc (l:List UInt8) (x:UInt8):orS (l ++ [x])=orS l ||| x:=by simp [orS,List.foldl_append]
theorem or_zero {x y:UInt8}:x ||| y=0↔x=0∧y=0:=by
 constructor
 ·intro h;have h':=congrArg UInt8.toNat h;rw [UInt8.toNat_or] at h'
  have h1:x.toNat=0:=by
   have:=Nat.left_le_or (n:=x.toNat) (m:=y.toNat);simp at h';omega
  have h2:y.toNat=0:=by
   have:=Nat.right_le_or (n:=x.toNat) (m:=y.toNat);simp at h';omega
  exact ⟨UInt8.toNat_inj.1 (by simpa using h1),UInt8.toNat_inj.1 (by simpa using h2)⟩
 ·rintro ⟨rfl,rfl⟩;rfl
theorem fold_or:∀ {l:List UInt8} {x:UInt8},l.foldl (fun x y=>x ||| y) x=0↔x=0∧∀ y∈l,y=0
 | [],x=>by simp
 | y :: l,x=>by
  rw [List.foldl_cons,fold_or (l:=l),or_zero];simp [and_assoc]
theorem xor_zero {x y:UInt8}:x ^^^ y=0↔x=y:=by
 constructor
 ·intro h;have:x ^^^ y ^^^ y=0 ^^^ y:=by rw [h]
  simpa [UInt8.xor_assoc] using this
 ·rintro rfl;simp
theorem orS_xor:∀ {a b:List UInt8},a.length=b.length→(orS (xorS a b)=0↔a=b)
 | [],[],_=>by simp [orS,xorS]
 | [],_ :: _,h=>by simp at h
 | _ :: _,[],h=>by simp at h
 | x :: a,y :: b,h=>by
  have ih:=orS_xor (a:=a) (b:=b) (by simpa using h);unfold orS at ih ⊢;rw [fold_or] at ih;rw [xorS,List.zipWith_cons_cons,List.foldl_cons,fold_or,or_zero,xor_zero];simp only [true_and] at ih ⊢;rw [show List.zipWith (fun x y=>x ^^^ y) a b=xorS a b from rfl,ih];simp
theorem wsame_ac (a b:List UInt8) (hl:a.length≤100000000):AC Tryz.prog 92 [bs none a,bs none b] [] (fun v bs'=>v=B (decide (a=b))∧bs'=[]):=by
 by_cases h:a.length=b.length
 ·have hx:=(xor_ac a b h hl).ro (r2:=bs none (xorS a b)) (by simp only [AV.ro,ro_B]);have hxl:(xorS a b).length=a.length:=by simp [xorS];omega
  refine AC.N Tryz.func92 Tryz.ntmps92 ?_;intro X hρ hmks;refine NX ?_
  repeat' (first|((first|refine wA4 ?_|((with_reducible apply AP.k_any);first|refine AP.E ?_)|refine aC1 hx ?_)<;>(try refine NX ?_))|refine wT4 ?_|with_reducible intro Q' hQ'|(refine GC ?_;refine ⟨fun hc=>?_,fun hc=>?_⟩)|simp only [la])
  ·exfalso;simp at *;omega
  refine cp_loopS [5,7,17,18,19,20,21,22,23,24] (fun k:Nat=>a.length - k) (fun k=>k≤a.length) (fun k=>[(17,I k),(16,I a.length),(15,bs none (xorS a b)),(5,U (orS ((xorS a b).take k)))]) (fun k=>[]) 0 (Nat.zero_le _) (by (try rw [hxl]);exact Gh.W) ?_;rintro k hk;simp only [setT,deT,setB,List.set_cons_succ,List.set_cons_zero]
  by_cases hlt:k < a.length
  ·have hw:IntKind.i64.wrap ((k:Int) + 1)=((k + 1:Nat):Int):=wrap_i64 (by omega) (by omega);have hkx:k < (xorS a b).length:=by omega
   have ho:IntKind.u8.wrap (((BitVec.ofInt IntKind.u8.bits ((orS ((xorS a b).take k)).toNat:Int)) ||| (BitVec.ofInt IntKind.u8.bits ((xorS a b)[k].toNat:Int))).toNat:Int)=((orS ((xorS a b).take k) ||| (xorS a b)[k]).toNat:Int):=or8b _ _;have hs:orS ((xorS a b).take (k + 1))=orS ((xorS a b).take k) ||| (xorS a b)[k]:=by rw [List.take_succ_eq_append_getElem hkx,orS_snoc]
   repeat' (first|((first|refine wA4 ?_|((with_reducible apply AP.k_any);first|refine AP.E ?_))<;>(try refine NX ?_))|refine wT4 ?_|with_reducible intro Q' hQ'|(refine GC ?_;refine ⟨fun hc=>?_,fun hc=>?_⟩)|simp only [la])
   ·simp only [hw,ho];refine ⟨k + 1,by omega,by omega,?_⟩;rw [hs];exact Gh.W
   ·exfalso;simp at *;omega
  ·obtain rfl:k=a.length:=by omega
   have ht:(xorS a b).take a.length=xorS a b:=List.take_of_length_le (by omega);rw [ht];have hz:=orS_xor h
   have hq:(((orS (xorS a b)).toNat:Int) == 0)=decide (a=b):=by
    rw [Bool.eq_iff_iff];simp only [beq_iff_eq,decide_eq_true_eq,←hz,←UInt8.toNat_inj];simp
   repeat' (first|((first|refine wA4 ?_|((with_reducible apply AP.k_any);first|refine AP.E ?_))<;>(try refine NX ?_))|refine wT4 ?_|with_reducible intro Q' hQ'|(refine GC ?_;refine ⟨fun hc=>?_,fun hc=>?_⟩)|simp only [la])
   all_goals first
    | (exfalso;simp at *;done)
    | (exfalso;simp at *;omega)
    | (refine RetQ.B [] ?_;(try dsimp only [resV,List.getD_cons_succ,List.getD_cons_zero]);(exact ⟨by rw [←hq],rfl⟩))
 ·have hd:decide (a=b)=false:=by simp;rintro rfl;exact h rfl
  rw [hd];refine AC.N Tryz.func92 Tryz.ntmps92 ?_;intro X hρ hmks;refine NX ?_
  repeat' (first|((first|refine wA4 ?_|((with_reducible apply AP.k_any);first|refine AP.E ?_))<;>(try refine NX ?_))|refine wT4 ?_|with_reducible intro Q' hQ'|(refine GC ?_;refine ⟨fun hc=>?_,fun hc=>?_⟩)|simp only [la])
  ·(refine RetQ.B [] ?_;(try dsimp only [resV,List.getD_cons_succ,List.getD_cons_zero]);(exact ⟨rfl,rfl⟩))
  all_goals (exfalso;simp at *;omega)
abbrev tI:TypeId:=3
abbrev eI (x:Int):List AV:=[I x]
theorem ro_I (l:List Int):roE (l.map eI)=l.map eI:=by rw [roE_map];rfl
theorem wrap_u64_lt (n:Int):(IntKind.u64.wrap n).toNat < 18446744073709551616:=by
 simp [IntKind.wrap,IntKind.bits,IntKind.signed];omega
theorem dint_ac (n:Int):AC Tryz.prog 172 [I n] [] (fun v bs'=>v=bs none (intS n)∧bs'=[]):=by
 have h:=(rput_ac (IntKind.u64.wrap n).toNat 8 (by omega) (wrap_u64_lt n)).ro (r2:=bs none (intS n)) (by simp [AV.ro,ro_B,intS]);rw [←u64_nn] at h;refine AC.N Tryz.func172 Tryz.ntmps172 ?_;intro X hρ hmks;refine NX ?_
 repeat' (first|((first|refine wA4 ?_|refine aC1 h ?_)<;>(try refine NX ?_))|refine wT4 ?_|with_reducible intro Q' hQ'|(refine GC ?_;refine ⟨fun hc=>?_,fun hc=>?_⟩)|simp only [la])
 (refine RetQ.B [] ?_;(try dsimp only [resV,List.getD_cons_succ,List.getD_cons_zero]);(exact ⟨rfl,rfl⟩))
theorem dflag_ac (b:Bool):AC Tryz.prog 174 [B b] [] (fun v bs'=>v=bs (some tU) (flagS b)∧bs'=[]):=by
 cases b with
 | true=>
  refine AC.N Tryz.func174 Tryz.ntmps174 ?_;intro X hρ hmks;refine NX ?_
  repeat' (first|((first|refine wA4 ?_)<;>(try refine NX ?_))|refine wT4 ?_|with_reducible intro Q' hQ'|(refine GC ?_;refine ⟨fun hc=>?_,fun hc=>?_⟩)|simp only [la])
  (refine RetQ.B [] ?_;(try dsimp only [resV,List.getD_cons_succ,List.getD_cons_zero]);(exact ⟨rfl,rfl⟩))
 | false=>
  refine AC.N Tryz.func174 Tryz.ntmps174 ?_;intro X hρ hmks;refine NX ?_
  repeat' (first|((first|refine wA4 ?_)<;>(try refine NX ?_))|refine wT4 ?_|with_reducible intro Q' hQ'|(refine GC ?_;refine ⟨fun hc=>?_,fun hc=>?_⟩)|simp only [la])
  (refine RetQ.B [] ?_;(try dsimp only [resV,List.getD_cons_succ,List.getD_cons_zero]);(exact ⟨rfl,rfl⟩))
theorem dbytes_ac (b:List UInt8) (hb:b.length≤10000000):AC Tryz.prog 103 [bs none b] [] (fun v bs'=>v=bs (some tU) (putS b.length 4 ++ b)∧bs'=[]):=by
 have hw:IntKind.u64.wrap (b.length:Int)=(b.length:Int):=by simp [IntKind.wrap,IntKind.bits,IntKind.signed];omega
 have h:=(rput_ac b.length 4 (by omega) (by omega)).ro (r2:=bs none (putS b.length 4)) (by simp [AV.ro,ro_B]);rw [←hw] at h;have h2:=cat_ac (putS b.length 4) b (by simp [putS_length]) (by omega);refine AC.N Tryz.func103 Tryz.ntmps103 ?_;intro X hρ hmks;refine NX ?_
 repeat' (first|((first|refine wA4 ?_|refine aC1 h ?_|refine aC1 h2 ?_)<;>(try refine NX ?_))|refine wT4 ?_|with_reducible intro Q' hQ'|(refine GC ?_;refine ⟨fun hc=>?_,fun hc=>?_⟩)|simp only [la])
 (refine RetQ.B [] ?_;(try dsimp only [resV,List.getD_cons_succ,List.getD_cons_zero]);(exact ⟨rfl,rfl⟩))
def numS (l:List Int):List UInt8:=(l.map intS).flatten
theorem intS_length (n:Int):(intS n).length=8:=putS_length _ _
theorem numS_length (l:List Int):(numS l).length=8 * l.length:=by
 induction l with
 | nil=>rfl
 | cons a l ih=>simp only [numS,List.map_cons,List.flatten_cons,List.length_append,List.length_cons,intS_length] at ih ⊢;omega
theorem numS_snoc (l:List Int) (x:Int):numS (l ++ [x])=numS l ++ intS x:=by simp [numS]
theorem numbers_ac (l:List Int) (hl:l.length≤1000000):AC Tryz.prog 102 [.sl none 1 (l.map eI)] [] (fun v bs'=>v=bs (some tU) (numS l)∧bs'=[]):=by
 refine AC.N Tryz.func102 Tryz.ntmps102 ?_;intro X hρ hmks;refine NX ?_
 repeat' (first|((first|refine wA4 ?_|((with_reducible apply AP.k_any);first|refine AP.E ?_))<;>(try refine NX ?_))|refine wT4 ?_|with_reducible intro Q' hQ'|(refine GC ?_;refine ⟨fun hc=>?_,fun hc=>?_⟩)|simp only [la])
 refine CP.gh (gh_nil (t:=3) (e:=tU) (k:=1) rfl) ?_;refine NX ?_;refine cp_loopS [3,4,5,6,7,8,9,10,11,12,13,14,15,16,17] (fun a:Nat×Nat=>l.length - a.1) (fun a=>a.1≤l.length) (fun a=>[(4,I a.1),(3,.hd 0 a.2)]) (fun a=>[(0,⟨a.2,.r tU 1 ((numS (l.take a.1)).map eB)⟩)]) (0,1) (Nat.zero_le _) (by exact Gh.W) ?_;rintro ⟨i,u⟩ hi;simp only [setT,deT,setB,List.set_cons_succ,List.set_cons_zero];dsimp only at hi
 by_cases hlt:i < l.length
 ·have hw:IntKind.i64.wrap ((i:Int) + 1)=((i + 1:Nat):Int):=wrap_i64 (by omega) (by omega);have hn:=numS_length (l.take i)
  have hlen:((numS (l.take i)).map eB).length + ((intS l[i]).map eB).length≤1000000000:=by
   rw [List.length_map,List.length_map,intS_length,hn,List.length_take];omega
  have hx:(l.map eI)[i]? = some (eI l[i]):=by simp [hlt]
  repeat' (first|((first|refine wA4 ?_|((with_reducible apply AP.k_any);first|refine AP.E ?_)|refine aC1 (dint_ac l[i]) ?_)<;>(try refine NX ?_))|refine wT4 ?_|with_reducible intro Q' hQ'|(refine GC ?_;refine ⟨fun hc=>?_,fun hc=>?_⟩)|simp only [la])
  ·simp only [hw];refine ⟨(i + 1,u + 1),by (dsimp only;omega),by (dsimp only;omega),?_⟩;dsimp only;rw [List.take_succ_eq_append_getElem hlt,numS_snoc,List.map_append];exact Gh.W
  ·exfalso;simp at *;omega
 ·obtain rfl:i=l.length:=by omega
  rw [List.take_length]
  repeat' (first|((first|refine wA4 ?_|((with_reducible apply AP.k_any);first|refine AP.E ?_))<;>(try refine NX ?_))|refine wT4 ?_|with_reducible intro Q' hQ'|(refine GC ?_;refine ⟨fun hc=>?_,fun hc=>?_⟩)|simp only [la])
  all_goals first
   | (exfalso;simp at *;done)
   | (exfalso;simp at *;omega)
   | (refine RetQ.B [] ?_;(try dsimp only [resV,List.getD_cons_succ,List.getD_cons_zero]);(exact ⟨rfl,rfl⟩))
theorem shaS_len (b:List UInt8):(shaS b).length=32:=rfl
def keyS (key:List UInt8):List UInt8:=if 64 < key.length then shaS key else key
theorem keyS_len (key:List UInt8):(keyS key).length≤64:=by
 unfold keyS;split
 ·rw [shaS_len];omega
 ·omega
/-- a key of 64 bytes -/
def fullS (k:List UInt8):List UInt8:=k ++ List.replicate (64 - k.length) 0
theorem fullS_len {k:List UInt8} (h:k.length≤64):(fullS k).length=64:=by simp [fullS];omega
def xorK (k:List UInt8) (x:UInt8):List UInt8:=(fullS k).map (· ^^^ x)
theorem xorK_len {k:List UInt8} (h:k.length≤64) (x:UInt8):(xorK k x).length=64:=by rw [xorK,List.length_map,fullS_len h]
def hmacS (key b:List UInt8):List UInt8:=shaS (xorK (keyS key) 0x5c ++ shaS (xorK (keyS key) 0x36 ++ b))
theorem dbytes03_ac (t:List UInt8) (ht:t.length=32):AC Tryz.prog 213 [tg t] [] (fun v bs'=>v=bs (some tU) t∧bs'=[]):=by
 have hT:(tagC t).length=32:=rfl
 have hTt:∀ i,i < 32→(tagC t)[i]? = some (U (t.getD i 0)):=by
  intro i hi;have:=mixT_32 t;rw [←this];simp [mixT,hi]
 refine AC.N Tryz.func213 Tryz.ntmps213 ?_;intro X hρ hmks;refine NX ?_
 repeat' (first|((first|refine wA7 ?_|((with_reducible apply AP.k_any);first|refine AP.E ?_)|refine wA2 ?_)<;>(try simp only [nx,q4,rn,fq,Nat.mul_one,Bool.and_true,Bool.and_false,Nat.reduceBEq,Nat.reduceAdd,Nat.reduceSub,BEq.rfl]))|refine wT4 ?_|with_reducible intro Q' hQ'|(refine GC ?_;refine ⟨fun hc=>?_,fun hc=>?_⟩)|simp only [la])
 refine CP.gh (gh_nil (t:=3) (e:=tU) (k:=1) rfl) ?_;refine NX ?_;refine CP.gh gh_slot ?_;refine NX ?_;refine cp_loopS [3,4,5,6,7,8,9,10,11,12,13,14] (fun a:Nat×Nat×Nat=>32 - a.1) (fun a=>a.1≤32) (fun a=>[(4,I a.1),(3,.hd 1 a.2.1)]) (fun a=>[(1,⟨a.2.1,.r tU 1 ((t.take a.1).map eB)⟩),(2,⟨a.2.2,.x⟩)]) (0,1,0) (Nat.zero_le _) (by exact Gh.W) ?_;rintro ⟨i,u,v⟩ hi;simp only [setT,deT,setB,List.set_cons_succ,List.set_cons_zero];dsimp only at hi
 by_cases hlt:i < 32
 ·have hw:IntKind.i64.wrap ((i:Int) + 1)=((i + 1:Nat):Int):=wrap_i64 (by omega) (by omega);have d32:decide ((i:Int) < 32)=true:=by simp;omega
  have hx:=hTt i hlt
  have hsn:(t.take i).map eB ++ [[U (t.getD i 0)]]=(t.take (i + 1)).map eB:=by
   rw [List.take_succ_eq_append_getElem (by omega),List.map_append,List.getD_eq_getElem?_getD,List.getElem?_eq_getElem (by omega)];rfl
  have hlen:((t.take i).map eB).length + 1≤1000000000:=by simp;omega
  generalize t.getD i 0=c at *;generalize (t.take i).map eB=W at *
  repeat' (first|((first|refine wA7 ?_|((with_reducible apply AP.k_any);first|refine AP.E ?_)|refine wA2 ?_)<;>(try simp only [d32,Int.toNat_natCast,nx,q4,rn,fq,Nat.mul_one,Bool.and_true,Bool.and_false,Nat.reduceBEq,Nat.reduceAdd,Nat.reduceSub,BEq.rfl]))|refine wT4 ?_|with_reducible intro Q' hQ'|(refine GC ?_;refine ⟨fun hc=>?_,fun hc=>?_⟩)|simp only [la])
  simp only [hw];refine ⟨(i + 1,u + 1,v + 1),by (dsimp only;omega),by (dsimp only;omega),?_⟩;dsimp only;rw [←hsn];exact Gh.W
 ·obtain rfl:i=32:=by omega
  have d32:decide (((32:Nat):Int) < 32)=false:=by simp
  rw [List.take_of_length_le (by omega)]
  repeat' (first|((first|refine wA7 ?_|((with_reducible apply AP.k_any);first|refine AP.E ?_)|refine wA2 ?_)<;>(try simp only [d32,nx,q4,rn,fq,Nat.mul_one,Bool.and_true,Bool.and_false,Nat.reduceBEq,Nat.reduceAdd,Nat.reduceSub,BEq.rfl]))|refine wT4 ?_|with_reducible intro Q' hQ'|(refine GC ?_;refine ⟨fun hc=>?_,fun hc=>?_⟩)|simp only [la])
  (refine RetQ.B [] ?_;(try dsimp only [resV,List.getD_cons_succ,List.getD_cons_zero]);(exact ⟨rfl,rfl⟩))
theorem xor8v (x y:UInt8):IntKind.u8.wrap (((BitVec.ofInt IntKind.u8.bits (x.toNat:Int)) ^^^ (BitVec.ofInt IntKind.u8.bits (y.toNat:Int))).toNat:Int)=((x ^^^ y).toNat:Int):=xor8 x y
theorem xor8z (y:UInt8):IntKind.u8.wrap (((BitVec.ofInt IntKind.u8.bits 0) ^^^ (BitVec.ofInt IntKind.u8.bits (y.toNat:Int))).toNat:Int)=(((0:UInt8) ^^^ y).toNat:Int):=xor8 0 y
theorem dblock_ac1 (K:List UInt8) (x:UInt8) (hK:K.length≤64):AC Tryz.prog 216 [bs none K,U x] [] (fun v bs'=>v=bs (some tU) (xorK K x)∧bs'=[]):=by
 have d0:decide ((64:Int) < (K.length:Int))=false:=by simp;omega
 refine AC.N Tryz.func216 Tryz.ntmps216 ?_;intro X hρ hmks;refine NX ?_
 repeat' (first|((first|refine wA7 ?_|((with_reducible apply AP.k_any);first|refine AP.E ?_)|refine wA2 ?_)<;>(try simp only [d0,nx,q4,rn,fq,Nat.mul_one,Bool.and_true,Bool.and_false,Nat.reduceBEq,Nat.reduceAdd,Nat.reduceSub,BEq.rfl]))|refine wT4 ?_|with_reducible intro Q' hQ'|(refine GC ?_;refine ⟨fun hc=>?_,fun hc=>?_⟩)|simp only [la])
 refine CP.gh (gh_nil (t:=5) (e:=tU) (k:=1) rfl) ?_;refine NX ?_;refine CP.gh gh_slot ?_;refine NX ?_;refine cp_loopS [5,6,7,14,15,16,17,18,19,20,21,22,23,24,25,26,27,28,29,30,31] (fun a:Nat×Nat×Nat=>64 - a.1) (fun a=>a.1≤64) (fun a=>[(6,I a.1),(5,.hd 0 a.2.1)]) (fun a=>[(0,⟨a.2.1,.r tU 1 (((xorK K x).take a.1).map eB)⟩),(1,⟨a.2.2,.x⟩)]) (0,1,0) (Nat.zero_le _) (by exact Gh.W) ?_;rintro ⟨i,u,v⟩ hi;simp only [setT,deT,setB,List.set_cons_succ,List.set_cons_zero];dsimp only at hi
 by_cases hlt:i < 64
 ·have hw:IntKind.i64.wrap ((i:Int) + 1)=((i + 1:Nat):Int):=wrap_i64 (by omega) (by omega);have d64:decide ((i:Int) < 64)=true:=by simp;omega
  have hfl:=fullS_len hK
  have hsn:((xorK K x).take i).map eB ++ [[U ((fullS K)[i] ^^^ x)]]=((xorK K x).take (i + 1)).map eB:=by
   rw [List.take_succ_eq_append_getElem (by rw [xorK_len hK];omega),List.map_append];simp [xorK]
  have hlen:(((xorK K x).take i).map eB).length + 1≤1000000000:=by simp;omega
  by_cases hki:i < K.length
  ·have dk:decide ((i:Int) < (K.length:Int))=true:=by simp;omega
   have hx:(K.map eB)[i]? = some (eB (fullS K)[i]):=by
    simp [fullS,hki,List.getElem_append_left]
   generalize (fullS K)[i]=c at *;have hx8:=xor8 c x;generalize ((xorK K x).take i).map eB=W at *
   repeat' (first|((first|refine wA7 ?_|((with_reducible apply AP.k_any);first|refine AP.E ?_)|refine wA2 ?_)<;>(try simp only [d64,dk,xor8v,nx,q4,rn,fq,Nat.mul_one,Bool.and_true,Bool.and_false,Nat.reduceBEq,Nat.reduceAdd,Nat.reduceSub,BEq.rfl]))|refine wT4 ?_|with_reducible intro Q' hQ'|(refine GC ?_;refine ⟨fun hc=>?_,fun hc=>?_⟩)|simp only [la])
   simp only [hw];refine ⟨(i + 1,u + 1,v + 1),by (dsimp only;omega),by (dsimp only;omega),?_⟩;dsimp only;rw [←hsn];exact Gh.W
  ·have dk:decide ((i:Int) < (K.length:Int))=false:=by simp;omega
   have hx:(fullS K)[i]=0:=by
    simp [fullS,List.getElem_append_right (show K.length≤i by omega)]
   rw [hx] at hsn;have hx8:=xor8 0 x;generalize ((xorK K x).take i).map eB=W at *
   repeat' (first|((first|refine wA7 ?_|((with_reducible apply AP.k_any);first|refine AP.E ?_)|refine wA2 ?_)<;>(try simp only [d64,dk,xor8z,nx,q4,rn,fq,Nat.mul_one,Bool.and_true,Bool.and_false,Nat.reduceBEq,Nat.reduceAdd,Nat.reduceSub,BEq.rfl]))|refine wT4 ?_|with_reducible intro Q' hQ'|(refine GC ?_;refine ⟨fun hc=>?_,fun hc=>?_⟩)|simp only [la])
   simp only [hw];refine ⟨(i + 1,u + 1,v + 1),by (dsimp only;omega),by (dsimp only;omega),?_⟩;dsimp only;rw [←hsn];exact Gh.W
 ·obtain rfl:i=64:=by omega
  have d64:decide (((64:Nat):Int) < 64)=false:=by simp
  rw [List.take_of_length_le (by rw [xorK_len hK];omega)]
  repeat' (first|((first|refine wA7 ?_|((with_reducible apply AP.k_any);first|refine AP.E ?_)|refine wA2 ?_)<;>(try simp only [d64,nx,q4,rn,fq,Nat.mul_one,Bool.and_true,Bool.and_false,Nat.reduceBEq,Nat.reduceAdd,Nat.reduceSub,BEq.rfl]))|refine wT4 ?_|with_reducible intro Q' hQ'|(refine GC ?_;refine ⟨fun hc=>?_,fun hc=>?_⟩)|simp only [la])
  (refine RetQ.B [] ?_;(try dsimp only [resV,List.getD_cons_succ,List.getD_cons_zero]);(exact ⟨rfl,rfl⟩))
theorem dblock_ac2 (key:List UInt8) (x:UInt8) (hk:key.length≤1000000) (h64:64 < key.length):AC Tryz.prog 216 [bs none key,U x] [] (fun v bs'=>v=bs (some tU) (xorK (shaS key) x)∧bs'=[]):=by
 have d0:decide ((64:Int) < (key.length:Int))=true:=by simp;omega
 have h1:=dsha_ac key hk;have h2:=(dbytes03_ac (shaS key) (shaS_len key)).ro (r2:=bs none (shaS key)) (by simp only [AV.ro,ro_B]);have hK:(shaS key).length≤64:=by rw [shaS_len];omega
 generalize shaS key=K at *;refine AC.N Tryz.func216 Tryz.ntmps216 ?_;intro X hρ hmks;refine NX ?_
 repeat' (first|((first|refine wA7 ?_|((with_reducible apply AP.k_any);first|refine AP.E ?_)|refine wA2 ?_)<;>(try simp only [d0,nx,q4,rn,fq,Nat.mul_one,Bool.and_true,Bool.and_false,Nat.reduceBEq,Nat.reduceAdd,Nat.reduceSub,BEq.rfl]))|refine wT4 ?_|with_reducible intro Q' hQ'|(refine GC ?_;refine ⟨fun hc=>?_,fun hc=>?_⟩)|simp only [la])
 refine CP.gh (gh_nil (t:=5) (e:=tU) (k:=1) rfl) ?_;refine NX ?_;refine CP.gh gh_slot ?_;refine NX ?_;refine cp_loopS [5,6,7,14,15,16,17,18,19,20,21,22,23,24,25,26,27,28,29,30,31] (fun a:Nat×Nat×Nat=>64 - a.1) (fun a=>a.1≤64) (fun a=>[(6,I a.1),(5,.hd 0 a.2.1)]) (fun a=>[(0,⟨a.2.1,.r tU 1 (((xorK K x).take a.1).map eB)⟩),(1,⟨a.2.2,.x⟩)]) (0,1,0) (Nat.zero_le _) (by exact Gh.W) ?_;rintro ⟨i,u,v⟩ hi;simp only [setT,deT,setB,List.set_cons_succ,List.set_cons_zero];dsimp only at hi
 by_cases hlt:i < 64
 ·have hw:IntKind.i64.wrap ((i:Int) + 1)=((i + 1:Nat):Int):=wrap_i64 (by omega) (by omega);have d64:decide ((i:Int) < 64)=true:=by simp;omega
  have hfl:=fullS_len hK
  have hsn:((xorK K x).take i).map eB ++ [[U ((fullS K)[i] ^^^ x)]]=((xorK K x).take (i + 1)).map eB:=by
   rw [List.take_succ_eq_append_getElem (by rw [xorK_len hK];omega),List.map_append];simp [xorK]
  have hlen:(((xorK K x).take i).map eB).length + 1≤1000000000:=by simp;omega
  by_cases hki:i < K.length
  ·have dk:decide ((i:Int) < (K.length:Int))=true:=by simp;omega
   have hx:(K.map eB)[i]? = some (eB (fullS K)[i]):=by
    simp [fullS,hki,List.getElem_append_left]
   generalize (fullS K)[i]=c at *;have hx8:=xor8 c x;generalize ((xorK K x).take i).map eB=W at *
   repeat' (first|((first|refine wA7 ?_|((with_reducible apply AP.k_any);first|refine AP.E ?_)|refine wA2 ?_)<;>(try simp only [d64,dk,xor8v,nx,q4,rn,fq,Nat.mul_one,Bool.and_true,Bool.and_false,Nat.reduceBEq,Nat.reduceAdd,Nat.reduceSub,BEq.rfl]))|refine wT4 ?_|with_reducible intro Q' hQ'|(refine GC ?_;refine ⟨fun hc=>?_,fun hc=>?_⟩)|simp only [la])
   simp only [hw];refine ⟨(i + 1,u + 1,v + 1),by (dsimp only;omega),by (dsimp only;omega),?_⟩;dsimp only;rw [←hsn];exact Gh.W
  ·have dk:decide ((i:Int) < (K.length:Int))=false:=by simp;omega
   have hx:(fullS K)[i]=0:=by
    simp [fullS,List.getElem_append_right (show K.length≤i by omega)]
   rw [hx] at hsn;have hx8:=xor8 0 x;generalize ((xorK K x).take i).map eB=W at *
   repeat' (first|((first|refine wA7 ?_|((with_reducible apply AP.k_any);first|refine AP.E ?_)|refine wA2 ?_)<;>(try simp only [d64,dk,xor8z,nx,q4,rn,fq,Nat.mul_one,Bool.and_true,Bool.and_false,Nat.reduceBEq,Nat.reduceAdd,Nat.reduceSub,BEq.rfl]))|refine wT4 ?_|with_reducible intro Q' hQ'|(refine GC ?_;refine ⟨fun hc=>?_,fun hc=>?_⟩)|simp only [la])
   simp only [hw];refine ⟨(i + 1,u + 1,v + 1),by (dsimp only;omega),by (dsimp only;omega),?_⟩;dsimp only;rw [←hsn];exact Gh.W
 ·obtain rfl:i=64:=by omega
  have d64:decide (((64:Nat):Int) < 64)=false:=by simp
  rw [List.take_of_length_le (by rw [xorK_len hK];omega)]
  repeat' (first|((first|refine wA7 ?_|((with_reducible apply AP.k_any);first|refine AP.E ?_)|refine wA2 ?_)<;>(try simp only [d64,nx,q4,rn,fq,Nat.mul_one,Bool.and_true,Bool.and_false,Nat.reduceBEq,Nat.reduceAdd,Nat.reduceSub,BEq.rfl]))|refine wT4 ?_|with_reducible intro Q' hQ'|(refine GC ?_;refine ⟨fun hc=>?_,fun hc=>?_⟩)|simp only [la])
  (refine RetQ.B [] ?_;(try dsimp only [resV,List.getD_cons_succ,List.getD_cons_zero]);(exact ⟨rfl,rfl⟩))
theorem dblock_ac (key:List UInt8) (x:UInt8) (hk:key.length≤1000000):AC Tryz.prog 216 [bs none key,U x] [] (fun v bs'=>v=bs none (xorK (keyS key) x)∧bs'=[]):=by
 unfold keyS;split
 ·exact (dblock_ac2 key x hk (by assumption)).ro (by simp only [AV.ro,ro_B])
 ·exact (dblock_ac1 key x (by omega)).ro (by simp only [AV.ro,ro_B])
theorem dhmac_ac (key b:List UInt8) (hk:key.length≤1000000) (hb:b.length≤900000):AC Tryz.prog 170 [bs none key,bs none b] [] (fun v bs'=>v=tg (hmacS key b)∧bs'=[]):=by
 have hkl:=keyS_len key;have hl1:=xorK_len hkl 0x36;have hl2:=xorK_len hkl 0x5c;have h1:=dblock_ac key 0x36 hk;have h2:=dblock_ac key 0x5c hk;unfold hmacS;generalize xorK (keyS key) 0x36=k1 at *;generalize xorK (keyS key) 0x5c=k2 at *;have h3:=(cat_ac k1 b (by omega) (by omega)).ro (r2:=bs none (k1 ++ b)) (by simp only [AV.ro,ro_B]);have h4:=dsha_ac (k1 ++ b) (by simp;omega);have hs:=shaS_len (k1 ++ b);have h5:=(dbytes03_ac (shaS (k1 ++ b)) hs).ro (r2:=bs none (shaS (k1 ++ b))) (by simp only [AV.ro,ro_B]);generalize shaS (k1 ++ b)=t at *;have h6:=(cat_ac k2 t (by omega) (by omega)).ro (r2:=bs none (k2 ++ t)) (by simp only [AV.ro,ro_B]);have h7:=dsha_ac (k2 ++ t) (by simp;omega);generalize shaS (k2 ++ t)=t2 at *;refine AC.N Tryz.func170 Tryz.ntmps170 ?_;intro X hρ hmks;refine NX ?_
 repeat' (first|((first|refine wA7 ?_|refine aC1 h1 ?_|refine aC1 h2 ?_|refine aC1 h3 ?_|refine aC1 h4 ?_|refine aC1 h5 ?_|refine aC1 h6 ?_|refine aC1 h7 ?_|refine wA2 ?_|refine wD5 ?_|refine dC1 h1 ?_|refine dC1 h2 ?_|refine dC1 h3 ?_|refine dC1 h4 ?_|refine dC1 h5 ?_|refine dC1 h6 ?_|refine dC1 h7 ?_)<;>(try simp only [nx,q4,rn,fq,Nat.mul_one,Bool.and_true,Bool.and_false,Nat.reduceBEq,Nat.reduceAdd,Nat.reduceSub,BEq.rfl]))|refine wT5 ?_|with_reducible intro Q' hQ'|(refine GC ?_;refine ⟨fun hc=>?_,fun hc=>?_⟩)|simp only [la])
 (exact RetQ.A [] (by exact ⟨rfl,rfl⟩))
theorem tagC_map {t:List UInt8} (h:t.length=32):(tagC t).map (fun a=>[a])=t.map eB:=by
 have:(tagC t)=(List.range 32).map fun j=>U (t.getD j 0):=rfl
 rw [this,List.map_map];apply List.ext_getElem?;intro i
 by_cases hi:i < 32
 ·simp [hi,h,List.getD_eq_getElem?_getD]
 ·rw [List.getElem?_eq_none (by simp;omega),List.getElem?_eq_none (by simp;omega)]
def xst1 (k:List UInt8) (x:UInt8) (i:Nat):List UInt8:=(k.map (· ^^^ x)).take i ++ k.drop i
theorem xst1_len (k:List UInt8) (x:UInt8) (i:Nat):(xst1 k x i).length=k.length:=by simp [xst1];omega
theorem xst1_at {k:List UInt8} {x:UInt8} {i:Nat} (h:i < k.length):((xst1 k x i).map eB)[i]? = some (eB k[i]):=by
 unfold xst1;rw [List.getElem?_map,List.getElem?_append_right (by simp;omega)];simp [show i - min i k.length=0 by omega,h]
theorem xst1_set {k:List UInt8} {x:UInt8} {i:Nat} (h:i < k.length):((xst1 k x i).map eB).set i (eB (k[i] ^^^ x))=(xst1 k x (i + 1)).map eB:=by
 have hl:((k.map (· ^^^ x)).take i).length=i:=by simp;omega
 unfold xst1;rw [←List.map_set,List.set_append_right _ _ (by omega),hl,Nat.sub_self,List.drop_eq_getElem_cons h,List.set_cons_zero,List.take_succ_eq_append_getElem (by simp;omega)];simp
theorem clos_ac (k:List UInt8) (x:UInt8) (hk:k.length≤1000):AC Tryz.prog 208 [U x,.bp 0 0 0] [bxB k] (fun v bs'=>v=bs (some tU) (k.map (· ^^^ x))∧bs'=[bxB k]):=by
 have h1:=wcat_ac [k] (by simp) (by simp;omega);rw [show [k].flatten=k by simp] at h1;refine AC.N Tryz.func208 Tryz.ntmps208 ?_;intro X hρ hmks;refine NX ?_;refine CP.gh gh_slot ?_;refine NX ?_
 refine CP.gh gh_slot ?_;refine NX ?_
 repeat' (first|((first|refine wA7 ?_|((with_reducible apply AP.k_any);first|refine AP.E ?_|refine AP.T ?_)|refine wA2 ?_)<;>(try simp only [nx,q4,rn,fq,Nat.mul_one,Bool.and_true,Bool.and_false,Nat.reduceBEq,Nat.reduceAdd,Nat.reduceSub,BEq.rfl]))|refine wT4 ?_|with_reducible intro Q' hQ'|(refine GC ?_;refine ⟨fun hc=>?_,fun hc=>?_⟩)|simp only [la])
 refine cp_loopS [5,11,12,13,14,15,16,17,18,19,20,21] (fun i:Nat=>k.length - i) (fun i=>i≤k.length) (fun i=>[(11,I i)]) (fun i=>[(2,⟨1,.r tU 1 ((xst1 k x i).map eB)⟩)]) 0 (Nat.zero_le _) (by exact Gh.W) ?_;intro i hi;simp only [setT,deT,setB,List.set_cons_succ,List.set_cons_zero];have hln:=xst1_len k x i;have hln2:((xst1 k x i).map eB).length=k.length:=by simp [hln]
 by_cases hlt:i < k.length
 ·have hw:IntKind.i64.wrap ((i:Int) + 1)=((i + 1:Nat):Int):=wrap_i64 (by omega) (by omega);have d1:decide ((i:Int) < (k.length:Int))=true:=by simp;omega
  have hset:=xst1_set (x:=x) hlt;have hat:=xst1_at (x:=x) hlt;generalize k[i]=c at *;generalize (xst1 k x i).map eB=W at *
  repeat' (first|((first|refine wA7 ?_|((with_reducible apply AP.k_any);first|refine AP.E ?_|refine AP.T ?_)|refine wA2 ?_)<;>(try simp only [d1,xor8v,nx,q4,rn,fq,Nat.mul_one,Bool.and_true,Bool.and_false,Nat.reduceBEq,Nat.reduceAdd,Nat.reduceSub,BEq.rfl]))|refine wT4 ?_|with_reducible intro Q' hQ'|(refine GC ?_;refine ⟨fun hc=>?_,fun hc=>?_⟩)|simp only [la])
  simp only [hw];exact ⟨i + 1,by omega,by omega,by (rw [←hset];exact Gh.W)⟩
 ·obtain rfl:i=k.length:=by omega
  have d1:decide ((k.length:Int) < (k.length:Int))=false:=by simp
  have he:xst1 k x k.length=k.map (· ^^^ x):=by
   unfold xst1;rw [List.drop_length,List.append_nil,List.take_of_length_le (by simp)]
  rw [he]
  repeat' (first|((first|refine wA7 ?_|((with_reducible apply AP.k_any);first|refine AP.E ?_|refine AP.T ?_)|refine wA2 ?_)<;>(try simp only [d1,nx,q4,rn,fq,Nat.mul_one,Bool.and_true,Bool.and_false,Nat.reduceBEq,Nat.reduceAdd,Nat.reduceSub,BEq.rfl]))|refine wT4 ?_|with_reducible intro Q' hQ'|(refine GC ?_;refine ⟨fun hc=>?_,fun hc=>?_⟩)|simp only [la])
  (refine RetQ.B [(0,0)] ?_;(try dsimp only [resV,List.getD_cons_succ,List.getD_cons_zero]);(exact ⟨rfl,rfl⟩))
theorem wcat2_ac (a b:List UInt8) (h:a.length + b.length≤10000000):AC Tryz.prog 76 [bss none [a,b]] [] (fun v bs'=>v=bs none (a ++ b)∧bs'=[]):=by
 have h1:=(wcat_ac [a,b] (by simp) (by simp;omega)).ro (r2:=bs none (a ++ b)) (by simp only [AV.ro,List.flatten_cons,List.flatten_nil,List.append_nil,ro_B]);exact h1
theorem hblocks1_ac (K:List UInt8) (hK:K.length≤64):AC Tryz.prog 163 [bs none K] [] (fun v bs'=>v=.fn 208 [.bp 0 0 0]∧bs'=[bxB (fullS K)]):=by
 have d0:decide ((64:Int) < (K.length:Int))=false:=by simp;omega
 have hw:IntKind.i64.wrap (64 - (K.length:Int))=((64 - K.length:Nat):Int):=by rw [wrap_i64 (by omega) (by omega)];omega
 have h1:=wcat2_ac K (List.replicate (64 - K.length) 0) (by simp;omega);rw [show K ++ List.replicate (64 - K.length) 0=fullS K from rfl] at h1;generalize fullS K=L at *;refine AC.N Tryz.func163 Tryz.ntmps163 ?_;intro X hρ hmks;refine NX ?_;refine CP.gh gh_slot ?_;refine NX ?_
 refine CP.gh gh_slot ?_;refine NX ?_
 refine CP.gh gh_slot ?_;refine NX ?_
 repeat' (first|((first|refine wA7 ?_|((with_reducible apply AP.k_any);refine ap_makeS rfl rfl rfl rfl rfl rfl rfl rfl rfl rfl rfl (by omega) ?_)|refine wA2 ?_)<;>(try simp only [d0,mk0,hw,nx,q4,rn,fq,Nat.mul_one,Bool.and_true,Bool.and_false,Nat.reduceBEq,Nat.reduceAdd,Nat.reduceSub,BEq.rfl]))|refine wT4 ?_|with_reducible intro Q' hQ'|(refine GC ?_;refine ⟨fun hc=>?_,fun hc=>?_⟩)|simp only [la])
 (exact RetQ.A [(0,3)] (by exact ⟨rfl,rfl⟩))
theorem hblocks2_ac (key:List UInt8) (hk:key.length≤1000000) (h64:64 < key.length):AC Tryz.prog 163 [bs none key] [] (fun v bs'=>v=.fn 208 [.bp 0 0 0]∧bs'=[bxB (fullS (shaS key))]):=by
 have d0:decide ((64:Int) < (key.length:Int))=true:=by simp;omega
 have h0:=sha_ac key hk;have hK:=shaS_len key;have htm:=tagC_map hK;generalize shaS key=K at *;have hw:IntKind.i64.wrap (64 - (K.length:Int))=((64 - K.length:Nat):Int):=by rw [wrap_i64 (by omega) (by omega)];omega
 have h1:=wcat2_ac K (List.replicate (64 - K.length) 0) (by simp;omega);rw [show K ++ List.replicate (64 - K.length) 0=fullS K from rfl] at h1;generalize fullS K=L at *;refine AC.N Tryz.func163 Tryz.ntmps163 ?_;intro X hρ hmks;refine NX ?_;refine CP.gh gh_slot ?_;refine NX ?_
 refine CP.gh gh_slot ?_;refine NX ?_
 refine CP.gh gh_slot ?_;refine NX ?_
 refine CP.gh gh_slot ?_;refine NX ?_
 repeat' (first|((first|refine wA7 ?_|((with_reducible apply AP.k_any);refine ap_makeS rfl rfl rfl rfl rfl rfl rfl rfl rfl rfl rfl (by omega) ?_)|refine wA2 ?_)<;>(try simp only [d0,mk0,hw,htm,nx,q4,rn,fq,Nat.mul_one,Bool.and_true,Bool.and_false,Nat.reduceBEq,Nat.reduceAdd,Nat.reduceSub,BEq.rfl]))|refine wT4 ?_|with_reducible intro Q' hQ'|(refine GC ?_;refine ⟨fun hc=>?_,fun hc=>?_⟩)|simp only [la])
 (exact RetQ.A [(0,4)] (by exact ⟨rfl,rfl⟩))
theorem hblocks_ac (key:List UInt8) (hk:key.length≤1000000):AC Tryz.prog 163 [bs none key] [] (fun v bs'=>v=.fn 208 [.bp 0 0 0]∧bs'=[bxB (fullS (keyS key))]):=by
 unfold keyS;split
 ·exact hblocks2_ac key hk (by assumption)
 ·exact hblocks1_ac key (by omega)
theorem wcatO_ac (ls:List (List UInt8)) (hl:ls.length≤100000000) (hf:ls.flatten.length≤100000000) :
 AC Tryz.prog 76 [bss (some tB) ls] [] (fun v bs'=>v=bs (some tU) ls.flatten∧bs'=[]):=by
 refine AC.N Tryz.func76 Tryz.ntmps76 ?_;intro X hρ hmks;refine NX ?_;refine CP.gh (gh_fzS (b:=0) rfl) ?_;simp only [ro_S,nx,q4,rn,fq,Nat.mul_one,Bool.and_true,Bool.and_false,Nat.reduceBEq,Nat.reduceAdd,Nat.reduceSub,BEq.rfl]
 repeat' (first|((first|refine wA4 ?_|((with_reducible apply AP.k_any);first|refine AP.E ?_))<;>(try refine NX ?_))|refine wT4 ?_|with_reducible intro Q' hQ'|(refine GC ?_;refine ⟨fun hc=>?_,fun hc=>?_⟩)|simp only [la])
 refine CP.gh (gh_nil (t:=3) (e:=tU) (k:=1) rfl) ?_;refine NX ?_;refine cp_loopS [3,5,8,9,10,11,12,13,14,15] (fun a:Nat×Nat=>ls.length - a.1) (fun a=>a.1≤ls.length) (fun a=>[(8,I a.1),(3,.hd 0 a.2)]) (fun a=>[(0,⟨a.2,.r tU 1 ((ls.take a.1).flatten.map eB)⟩)]) (0,2) (Nat.zero_le _) (by exact Gh.W) ?_;rintro ⟨k,u⟩ hk;simp only [setT,deT,setB,List.set_cons_succ,List.set_cons_zero];dsimp only at hk
 by_cases hlt:k < ls.length
 ·have hw:IntKind.i64.wrap ((k:Int) + 1)=((k + 1:Nat):Int):=wrap_i64 (by omega) (by omega)
  have hlen:(ls.take k).flatten.length + ls[k].length≤100000000:=by
   have h1:(ls.take k).flatten ++ ls[k]=(ls.take (k + 1)).flatten:=by rw [List.take_succ_eq_append_getElem hlt,List.flatten_append,List.flatten_cons,List.flatten_nil,List.append_nil]
   have h2:(ls.take (k + 1)).flatten ++ (ls.drop (k + 1)).flatten=ls.flatten:=by rw [←List.flatten_append,List.take_append_drop]
   have h3:=congrArg List.length h1;have h4:=congrArg List.length h2;simp only [List.length_append] at h3 h4;omega
  have hlen2:((ls.take k).flatten.map eB).length + (ls[k].map eB).length≤1000000000:=by rw [List.length_map,List.length_map];omega
  repeat' (first|((first|refine wA4 ?_|((with_reducible apply AP.k_any);first|refine AP.E ?_))<;>(try refine NX ?_))|refine wT4 ?_|with_reducible intro Q' hQ'|(refine GC ?_;refine ⟨fun hc=>?_,fun hc=>?_⟩)|simp only [la])
  ·simp only [hw];refine ⟨(k + 1,u + 1),by (dsimp only;omega),by (dsimp only;omega),?_⟩;have h1:(ls.take (k + 1)).flatten.map eB=(ls.take k).flatten.map eB ++ ls[k].map eB:=by rw [List.take_succ_eq_append_getElem hlt,List.flatten_append,List.flatten_cons,List.flatten_nil,List.append_nil,List.map_append]
   simp only [h1];exact Gh.W
  ·exfalso;simp at *;omega
 ·obtain rfl:k=ls.length:=by omega
  rw [List.take_length]
  repeat' (first|((first|refine wA4 ?_|((with_reducible apply AP.k_any);first|refine AP.E ?_))<;>(try refine NX ?_))|refine wT4 ?_|with_reducible intro Q' hQ'|(refine GC ?_;refine ⟨fun hc=>?_,fun hc=>?_⟩)|simp only [la])
  all_goals first
   | (exfalso;simp at *;done)
   | (exfalso;simp at *;omega)
   | (refine RetQ.B [] ?_;(try dsimp only [resV,List.getD_cons_succ,List.getD_cons_zero]);(exact ⟨rfl,rfl⟩))
theorem wcat2O_ac (a b:List UInt8) (h:a.length + b.length≤10000000):AC Tryz.prog 76 [bss (some tB) [a,b]] [] (fun v bs'=>v=bs none (a ++ b)∧bs'=[]):=by
 have h1:=(wcatO_ac [a,b] (by simp) (by simp;omega)).ro (r2:=bs none (a ++ b)) (by simp only [AV.ro,List.flatten_cons,List.flatten_nil,List.append_nil,ro_B]);exact h1
theorem aC3 {p G G':Prop} (c:p) (K:G') (h:p→G'→G:=by (intro c kz;(with_reducible apply AP.k_any);exact AP.B 1 c kz)):G:=h c K
theorem aC4 {p G G':Prop} (c:p) (K:G') (h:p→G'→G:=by (intro c kz;(with_reducible apply AP.k_any);exact AP.B 0 c kz)):G:=h c K
theorem dC2 {p G G':Prop} (c:p) (K:G') (h:p→G'→G:=by (intro c kz;(with_reducible apply DW.k_any);refine DW.known rfl ?_;(with_reducible first|apply DW.sx 2);(iterate 2 (focus (simp only [ft,nm,Nat.reduceAdd,Nat.reduceBEq,List.getElem?_cons_zero,List.getElem?_cons_succ];exact rfl)));(focus (intro X V;simp only [ft,nm,Nat.reduceAdd,Nat.reduceBEq];(try (refine AP.Y ?_;dsimp only));((with_reducible apply AP.k_any);refine AP.B 1 c ?_);(try refine NX ?_);refine AP.nil ?_;(first|refine ⟨trivial,rfl,?_⟩|refine ⟨rfl,rfl,?_⟩);(repeat' (first|exact Mg.nil|apply Mg.keep rfl|apply Mg.take rfl));done));(focus (refine Exists.intro (fun _=>0) ?_;apply Exists.intro;(repeat' (first|exact Mg.nil|apply Mg.keep rfl|apply Mg.take rfl));done));(iterate 2 (focus (exact rfl)));exact kz)):G:=h c K
theorem dC3 {p G G':Prop} (c:p) (K:G') (h:p→G'→G:=by (intro c kz;(with_reducible apply DW.k_any);refine DW.known rfl ?_;(with_reducible first|apply DW.sx 2);(iterate 2 (focus (simp only [ft,nm,Nat.reduceAdd,Nat.reduceBEq,List.getElem?_cons_zero,List.getElem?_cons_succ];exact rfl)));(focus (intro X V;simp only [ft,nm,Nat.reduceAdd,Nat.reduceBEq];(try (refine AP.Y ?_;dsimp only));((with_reducible apply AP.k_any);refine AP.B 0 c ?_);(try refine NX ?_);refine AP.nil ?_;(first|refine ⟨trivial,rfl,?_⟩|refine ⟨rfl,rfl,?_⟩);(repeat' (first|exact Mg.nil|apply Mg.keep rfl|apply Mg.take rfl));done));(focus (refine Exists.intro (fun _=>0) ?_;apply Exists.intro;(repeat' (first|exact Mg.nil|apply Mg.keep rfl|apply Mg.take rfl));done));(iterate 2 (focus (exact rfl)));exact kz)):G:=h c K
theorem wD7 {G G':Prop} (K:G') (h:G'→G:=by (intro kz;(with_reducible apply DW.k_any);first|exact DW.R kz|exact DW.R' kz|exact DW.W kz|exact DW.W' kz|exact DW.RA kz|exact DW.A 0 kz|exact DW.A 1 kz|exact DW.A 2 kz|exact DW.WX kz|exact DW.RX kz|exact DW.WX' kz|exact DW.R kz|exact DW.R' kz|exact DW.W kz|exact DW.W' kz)):G:=h K
theorem hmac_ac (key b:List UInt8) (hk:key.length≤1000000) (hb:b.length≤900000):AC Tryz.prog 95 [bs none key,bs none b] [] (fun v bs'=>v=tg (hmacS key b)∧bs'=[]):=by
 have hkl:=keyS_len key;have hfl:=fullS_len hkl;have h0:=hblocks_ac key hk;have h1:=AC.ro (clos_ac (fullS (keyS key)) 0x36 (by omega)) (r2:=bs none (xorK (keyS key) 0x36)) (by simp only [AV.ro,ro_B];rfl);have h2:=AC.ro (clos_ac (fullS (keyS key)) 0x5c (by omega)) (r2:=bs none (xorK (keyS key) 0x5c)) (by simp only [AV.ro,ro_B];rfl);have hl1:=xorK_len hkl 0x36;have hl2:=xorK_len hkl 0x5c;unfold hmacS;generalize xorK (keyS key) 0x36=k1 at *;generalize xorK (keyS key) 0x5c=k2 at *;generalize fullS (keyS key)=L at *;have h3:=wcat2_ac k1 b (by omega);have h4:=sha_ac (k1 ++ b) (by simp;omega);have hs:=shaS_len (k1 ++ b);generalize shaS (k1 ++ b)=t at *;have htm:=tagC_map hs;simp only [tagC,List.map_cons,List.map_nil] at htm;have h6:=wcat2_ac k2 t (by omega);have h8:=wcat2O_ac k2 t (by omega);have h7:=sha_ac (k2 ++ t) (by simp;omega);generalize shaS (k2 ++ t)=t2 at *;refine AC.N Tryz.func95 Tryz.ntmps95 ?_;intro X hρ hmks;refine NX ?_;refine CP.gh gh_slot ?_;refine NX ?_
 refine CP.gh gh_slot ?_;refine NX ?_
 refine CP.gh gh_slot ?_;refine NX ?_
 refine CP.gh gh_slot ?_;refine NX ?_
 repeat' (first|((first|refine wA7 ?_|refine aC3 h0 ?_|refine aC4 h1 ?_|refine aC4 h2 ?_|refine aC1 h3 ?_|refine aC1 h4 ?_|refine aC1 h6 ?_|refine aC1 h7 ?_|refine aC1 h8 ?_|refine wA2 ?_|refine wD7 ?_|refine dC2 h0 ?_|refine dC3 h1 ?_|refine dC3 h2 ?_|refine dC1 h3 ?_|refine dC1 h4 ?_|refine dC1 h6 ?_|refine dC1 h7 ?_|refine dC1 h8 ?_)<;>(try simp only [htm,nx,q4,rn,fq,Nat.mul_one,Bool.and_true,Bool.and_false,Nat.reduceBEq,Nat.reduceAdd,Nat.reduceSub,BEq.rfl]))|refine wT5 ?_|with_reducible intro Q' hQ'|(refine GC ?_;refine ⟨fun hc=>?_,fun hc=>?_⟩)|simp only [la])
 (exact RetQ.A [] (by exact ⟨rfl,rfl⟩))
theorem hsame_ac (a b:List UInt8) (ha:a.length=32) (hb:b.length=32):AC Tryz.prog 54 [tg a,tg b] [] (fun v bs'=>v=B (decide (a=b))∧bs'=[]):=by
 have h1:=wsame_ac a b (by omega);have hma:=tagC_map ha;have hmb:=tagC_map hb;simp only [tagC,List.map_cons,List.map_nil] at hma hmb;refine AC.N Tryz.func54 Tryz.ntmps54 ?_;intro X hρ hmks;refine NX ?_;refine CP.gh gh_slot ?_;refine NX ?_
 repeat' (first|((first|refine wA7 ?_|refine wA2 ?_|refine wD7 ?_)<;>(try simp only [hma,hmb,nx,q4,rn,fq,Nat.mul_one,Bool.and_true,Bool.and_false,Nat.reduceBEq,Nat.reduceAdd,Nat.reduceSub,BEq.rfl]))|refine wT5 ?_|with_reducible intro Q' hQ'|(refine GC ?_;refine ⟨fun hc=>?_,fun hc=>?_⟩)|simp only [la])
 (exact RetQ.A [] (by exact ⟨rfl,rfl⟩))
structure Pkt where
 frm:Int
 to:Int
 epoch:Int
 boot:Int
 seqn:Int
 body:List UInt8
 tag:List UInt8
abbrev eP (p:Pkt):List AV:=[I p.frm,I p.to,I p.epoch,I p.boot,I p.seqn,bs none p.body,U (p.tag.getD 0 0),U (p.tag.getD 1 0),U (p.tag.getD 2 0),U (p.tag.getD 3 0),U (p.tag.getD 4 0),U (p.tag.getD 5 0),U (p.tag.getD 6 0),U (p.tag.getD 7 0),U (p.tag.getD 8 0),U (p.tag.getD 9 0),U (p.tag.getD 10 0),U (p.tag.getD 11 0),U (p.tag.getD 12 0),U (p.tag.getD 13 0),U (p.tag.getD 14 0),U (p.tag.getD 15 0),U (p.tag.getD 16 0),U (p.tag.getD 17 0),U (p.tag.getD 18 0),U (p.tag.getD 19 0),U (p.tag.getD 20 0),U (p.tag.getD 21 0),U (p.tag.getD 22 0),U (p.tag.getD 23 0),U (p.tag.getD 24 0),U (p.tag.getD 25 0),U (p.tag.getD 26 0),U (p.tag.getD 27 0),U (p.tag.getD 28 0),U (p.tag.getD 29 0),U (p.tag.getD 30 0),U (p.tag.getD 31 0)]
def whoS (n:Int):Bool:=(decide (0≤n) && decide (n≤4)) || n == 8 || n == 9
def mayP (p:Pkt):Bool:=whoS p.frm && whoS p.to && !(p.frm == p.to) && decide (1≤p.epoch) && decide (0≤p.boot) && decide (1≤p.seqn)
theorem wA10 {G G':Prop} (K:G') (h:G'→G:=by (intro kz;(with_reducible apply AP.k_any);first|exact AP.S kz|(refine AP.Y ?_;dsimp only;exact kz)|exact AP.A kz|exact AP.AB 0 kz|exact AP.AB 1 kz|exact AP.AL kz)):G:=h K
theorem known_ac (n:Int):AC Tryz.prog 87 [I n] [] (fun v bs'=>v=B (whoS n)∧bs'=[]):=by
 refine AC.N Tryz.func87 Tryz.ntmps87 ?_;intro X hρ hmks;refine NX ?_
 repeat' (first|((first|refine wA10 ?_|(refine GA ?_;refine ⟨fun hg=>?_,fun hg=>?_⟩))<;>(try refine NX ?_))|refine wT4 ?_|with_reducible intro Q' hQ'|(refine GC ?_;refine ⟨fun hc=>?_,fun hc=>?_⟩)|simp only [la])
 all_goals (refine RetQ.B [] ?_;(try dsimp only [resV,List.getD_cons_succ,List.getD_cons_zero]);((refine ⟨congrArg B ?_,rfl⟩;(repeat (rename AC _ _ _ _ _=>hzz;clear hzz));simp at *;simp [whoS, *];try omega)))
theorem who_ac (n:Int):AC Tryz.prog 167 [I n] [] (fun v bs'=>v=B (whoS n)∧bs'=[]):=by
 refine AC.N Tryz.func167 Tryz.ntmps167 ?_;intro X hρ hmks;refine NX ?_
 repeat' (first|((first|refine wA10 ?_|(refine GA ?_;refine ⟨fun hg=>?_,fun hg=>?_⟩))<;>(try refine NX ?_))|refine wT4 ?_|with_reducible intro Q' hQ'|(refine GC ?_;refine ⟨fun hc=>?_,fun hc=>?_⟩)|simp only [la])
 all_goals (refine RetQ.B [] ?_;(try dsimp only [resV,List.getD_cons_succ,List.getD_cons_zero]);((refine ⟨congrArg B ?_,rfl⟩;(repeat (rename AC _ _ _ _ _=>hzz;clear hzz));simp at *;simp [whoS, *];try omega)))
theorem mayP_ac (p:Pkt):AC Tryz.prog 50 [.ag (eP p)] [] (fun v bs'=>v=B (mayP p)∧bs'=[]):=by
 have h1:=known_ac p.frm;have h2:=known_ac p.to;unfold mayP;generalize whoS p.frm=x at h1 ⊢;generalize whoS p.to=y at h2 ⊢;refine AC.N Tryz.func50 Tryz.ntmps50 ?_;intro X hρ hmks;refine NX ?_
 repeat' (first|((first|refine wA10 ?_|(refine GA ?_;refine ⟨fun hg=>?_,fun hg=>?_⟩)|refine aC1 h1 ?_)<;>(try refine NX ?_))|refine wT4 ?_|with_reducible intro Q' hQ'|(refine GC ?_;refine ⟨fun hc=>?_,fun hc=>?_⟩)|simp only [la])
 all_goals (refine RetQ.B [] ?_;(try dsimp only [resV,List.getD_cons_succ,List.getD_cons_zero]);((refine ⟨congrArg B ?_,rfl⟩;(repeat (rename AC _ _ _ _ _=>hzz;clear hzz));first|(simp_all;done)|(simp at *;simp_all;omega)|(rw [Bool.eq_iff_iff];simp at *;simp_all;try omega))))
theorem dmayP_ac (p:Pkt):AC Tryz.prog 99 [.ag (eP p)] [] (fun v bs'=>v=B (mayP p)∧bs'=[]):=by
 have h1:=who_ac p.frm;have h2:=who_ac p.to;unfold mayP;generalize whoS p.frm=x at h1 ⊢;generalize whoS p.to=y at h2 ⊢;refine AC.N Tryz.func99 Tryz.ntmps99 ?_;intro X hρ hmks;refine NX ?_
 repeat' (first|((first|refine wA10 ?_|(refine GA ?_;refine ⟨fun hg=>?_,fun hg=>?_⟩)|refine aC1 h1 ?_)<;>(try refine NX ?_))|refine wT4 ?_|with_reducible intro Q' hQ'|(refine GC ?_;refine ⟨fun hc=>?_,fun hc=>?_⟩)|simp only [la])
 all_goals (refine RetQ.B [] ?_;(try dsimp only [resV,List.getD_cons_succ,List.getD_cons_zero]);((refine ⟨congrArg B ?_,rfl⟩;(repeat (rename AC _ _ _ _ _=>hzz;clear hzz));first|(simp_all;done)|(simp at *;simp_all;omega)|(rw [Bool.eq_iff_iff];simp at *;simp_all;try omega))))
abbrev Wst:=Bool×List UInt8
theorem wtag_ac (st:Wst) (t:List UInt8) (hst:st.2.length≤65536) (ht:t.length=32):AC Tryz.prog 133 [.bp 0 0 0,tg t] [wB st] (fun v bs'=>v=.bp 0 0 0∧bs'=[wB (addS st t)]):=by
 have h2:=add_ac st [t] hst (by simp) (by simp;omega);rw [show [t].foldl addS st=addS st t from rfl] at h2;have htm:=tagC_map ht;simp only [tagC,List.map_cons,List.map_nil] at htm;refine AC.N Tryz.func133 Tryz.ntmps133 ?_;intro X hρ hmks;refine NX ?_;refine CP.gh gh_slot ?_;refine NX ?_
 repeat' (first|((first|refine wA7 ?_|refine wA2 ?_)<;>(try simp only [htm,nx,q4,rn,fq,Nat.mul_one,Bool.and_true,Bool.and_false,Nat.reduceBEq,Nat.reduceAdd,Nat.reduceSub,BEq.rfl]))|refine wT4 ?_|with_reducible intro Q' hQ'|(refine GC ?_;refine ⟨fun hc=>?_,fun hc=>?_⟩)|simp only [la])
 (exact RetQ.A [(0,0)] (by exact ⟨rfl,rfl⟩))
theorem aC5 {p G G':Prop} (c:p) (K:G') (h:p→G'→G:=by (intro c kz;(with_reducible apply AP.k_any);exact AP.B 2 c kz)):G:=h c K
theorem dC4 {p G G':Prop} (c:p) (K:G') (h:p→G'→G:=by (intro c kz;(with_reducible apply DW.k_any);refine DW.known rfl ?_;(with_reducible first|apply DW.sx 2);(iterate 2 (focus (simp only [ft,nm,Nat.reduceAdd,Nat.reduceBEq,List.getElem?_cons_zero,List.getElem?_cons_succ];exact rfl)));(focus (intro X V;simp only [ft,nm,Nat.reduceAdd,Nat.reduceBEq];(try (refine AP.Y ?_;dsimp only));((with_reducible apply AP.k_any);refine AP.B 2 c ?_);(try refine NX ?_);refine AP.nil ?_;(first|refine ⟨trivial,rfl,?_⟩|refine ⟨rfl,rfl,?_⟩);(repeat' (first|exact Mg.nil|apply Mg.keep rfl|apply Mg.take rfl));done));(focus (refine Exists.intro (fun _=>0) ?_;apply Exists.intro;(repeat' (first|exact Mg.nil|apply Mg.keep rfl|apply Mg.take rfl));done));(iterate 2 (focus (exact rfl)));exact kz)):G:=h c K
theorem headQ_ac (p:Pkt) (s0 s1 s2 s3 s4 s5 s6:Wst)
 (h0:AC Tryz.prog 129 [] [] (fun v bs'=>v=.bp 0 0 0∧bs'=[wB s0]))
 (i1:AC Tryz.prog 130 [.bp 0 0 0,I p.frm] [wB s0] (fun v bs'=>v=.bp 0 0 0∧bs'=[wB s1]))
 (i2:AC Tryz.prog 130 [.bp 0 0 0,I p.to] [wB s1] (fun v bs'=>v=.bp 0 0 0∧bs'=[wB s2]))
 (i3:AC Tryz.prog 130 [.bp 0 0 0,I p.epoch] [wB s2] (fun v bs'=>v=.bp 0 0 0∧bs'=[wB s3]))
 (i4:AC Tryz.prog 130 [.bp 0 0 0,I p.boot] [wB s3] (fun v bs'=>v=.bp 0 0 0∧bs'=[wB s4]))
 (i5:AC Tryz.prog 130 [.bp 0 0 0,I p.seqn] [wB s4] (fun v bs'=>v=.bp 0 0 0∧bs'=[wB s5]))
 (i6:AC Tryz.prog 144 [.bp 0 0 0,bs none p.body] [wB s5] (fun v bs'=>v=.bp 0 0 0∧bs'=[wB s6])) :
 AC Tryz.prog 93 [.ag (eP p)] [] (fun v bs'=>v=.bp 0 0 0∧bs'=[wB s6]):=by
 refine AC.N Tryz.func93 Tryz.ntmps93 ?_;intro X hρ hmks;refine NX ?_;refine CP.gh gh_slot ?_;refine NX ?_
 refine CP.gh gh_slot ?_;refine NX ?_
 refine CP.gh gh_slot ?_;refine NX ?_
 repeat' (first|((first|refine wA7 ?_|refine aC4 i1 ?_|refine aC4 i2 ?_|refine aC4 i3 ?_|refine aC4 i4 ?_|refine aC4 i5 ?_|refine aC4 i6 ?_|refine aC5 h0 ?_|refine wA2 ?_|refine wD5 ?_|refine dC3 i1 ?_|refine dC3 i2 ?_|refine dC3 i3 ?_|refine dC3 i4 ?_|refine dC3 i5 ?_|refine dC3 i6 ?_|refine dC4 h0 ?_)<;>(try simp only [nx,q4,rn,fq,Nat.mul_one,Bool.and_true,Bool.and_false,Nat.reduceBEq,Nat.reduceAdd,Nat.reduceSub,BEq.rfl]))|refine wT5 ?_|with_reducible intro Q' hQ'|(refine GC ?_;refine ⟨fun hc=>?_,fun hc=>?_⟩)|simp only [la])
 (exact RetQ.A [(1,1)] (by exact ⟨rfl,rfl⟩))
def headS (p:Pkt):List UInt8:=intS p.frm ++ intS p.to ++ intS p.epoch ++ intS p.boot ++ intS p.seqn ++ putS p.body.length 4 ++ p.body
theorem headS_len (p:Pkt):(headS p).length=44 + p.body.length:=by
 have (n:Int):(intS n).length=8:=putS_length _ _;simp [headS,this,putS_length];omega
theorem haddS_ok {x b:List UInt8} (h:x.length + b.length≤65536):addS (false,x) b=(false,x ++ b):=by
 rw [addS,if_neg (by simp;omega)]
theorem head_ac (p:Pkt) (hp:p.body.length≤60000):AC Tryz.prog 93 [.ag (eP p)] [] (fun v bs'=>v=.bp 0 0 0∧bs'=[wB (false,headS p)]):=by
 have hi (n:Int):(intS n).length=8:=putS_length _ _
 have e:addS (addS (addS (addS (addS (addS (addS (false,[]) (intS p.frm)) (intS p.to)) (intS p.epoch)) (intS p.boot)) (intS p.seqn)) (putS p.body.length 4)) p.body=(false,headS p):=by
  rw [haddS_ok,haddS_ok,haddS_ok,haddS_ok,haddS_ok,haddS_ok,haddS_ok]
  ·rfl
  all_goals (simp only [List.length_append,List.length_nil,hi,putS_length];omega)
 have g0:((false,[]):Wst).2.length≤65536:=by simp
 have g1:=addS_len (b:=intS p.frm) g0;have g2:=addS_len (b:=intS p.to) g1;have g3:=addS_len (b:=intS p.epoch) g2;have g4:=addS_len (b:=intS p.boot) g3;have g5:=addS_len (b:=intS p.seqn) g4;have:=headQ_ac p _ _ _ _ _ _ _ wnew_ac (wint_ac _ _ g0) (wint_ac _ _ g1) (wint_ac _ _ g2) (wint_ac _ _ g3) (wint_ac _ _ g4) (wbytes_ac _ p.body g5 (by omega));rw [e] at this;exact this
def formS (s:ByteArray) (l:List Int):List UInt8:=s.data.toList ++ [0] ++ numS l
def deriveS (key:List UInt8) (s:ByteArray) (l:List Int):List UInt8:=hmacS key (formS s l)
theorem hmacS_len (key b:List UInt8):(hmacS key b).length=32:=rfl
theorem formS_take (s:ByteArray) (l:List Int) {i:Nat} (h:i < l.length):formS s (l.take (i + 1))=formS s (l.take i) ++ intS l[i]:=by
 rw [formS,List.take_succ_eq_append_getElem h,numS_snoc,←List.append_assoc];rfl
theorem formS_len (s:ByteArray) (l:List Int):(formS s l).length=s.size + 1 + 8 * l.length:=by
 have:s.data.toList.length=s.size:=by simp
 simp only [formS,List.length_append,numS_length,this];rfl
theorem wA11 {G G':Prop} (K:G') (h:G'→G:=by (intro kz;(with_reducible apply AP.k_any);first|exact AP.S kz|exact AP.A kz|exact AP.AB 0 kz|exact AP.AB 1 kz|exact AP.AL kz|exact AP.LB kz|exact AP.TB kz|exact AP.IX kz|exact AP.SF kz|exact AP.SV kz|exact AP.CV kz|exact AP.CO kz|exact AP.CS kz)):G:=h K
theorem hderive_ac (key:List UInt8) (s:ByteArray) (l:List Int) (hk:key.length≤100000) (hs:s.size≤1000) (hl:l.length≤1000):AC Tryz.prog 96 [bs none key,.sc (.string s),.sl none 1 (l.map eI)] [] (fun v bs'=>v=bs none (deriveS key s l)∧bs'=[]):=by
 have hsl:s.data.toList.length=s.size:=by simp
 have h1:=wcat2_ac s.data.toList [0] (by simp;omega);rw [show s.data.toList ++ [0]=formS s (l.take 0) by simp [formS,numS]] at h1;have hfl:=formS_len s l;have h5:=hmac_ac key (formS s l) (by omega) (by omega);have htl:=hmacS_len key (formS s l);have htm:=tagC_map htl;unfold deriveS;generalize hmacS key (formS s l)=t at *;refine AC.N Tryz.func96 Tryz.ntmps96 ?_;intro X hρ hmks;refine NX ?_;refine CP.gh gh_slot ?_;refine NX ?_
 refine CP.gh gh_slot ?_;refine NX ?_
 refine CP.gh gh_slot ?_;refine NX ?_
 refine CP.gh gh_slot ?_;refine NX ?_
 repeat' (first|((first|refine wA11 ?_|((with_reducible apply AP.k_any);first|refine AP.E ?_|refine AP.T ?_)|refine aC1 h1 ?_|refine wA2 ?_)<;>(try simp only [nx,q4,rn,fq,Nat.mul_one,Bool.and_true,Bool.and_false,Nat.reduceBEq,Nat.reduceAdd,Nat.reduceSub,BEq.rfl]))|refine wT4 ?_|with_reducible intro Q' hQ'|(refine GC ?_;refine ⟨fun hc=>?_,fun hc=>?_⟩)|simp only [la])
 refine cp_loopS [7,9,18,19,20,21,22,23,24,25,26,27,28] (fun a:Nat×Nat=>l.length - a.1) (fun a=>a.1≤l.length) (fun a=>[(18,I a.1),(7,bs none (formS s (l.take a.1))),(12,.de),(13,.de)]) (fun a=>[(0,⟨a.2,.x⟩)]) (0,2) (Nat.zero_le _) (by exact Gh.W) ?_;clear h1;rintro ⟨i,v⟩ hi;simp only [setT,deT,setB,List.set_cons_succ,List.set_cons_zero];dsimp only at hi
 by_cases hlt:i < l.length
 ·have hw:IntKind.i64.wrap ((i:Int) + 1)=((i + 1:Nat):Int):=wrap_i64 (by omega) (by omega);have d1:decide ((i:Int) < (l.length:Int))=true:=by simp;omega
  have hx:(l.map eI)[i]? = some (eI l[i]):=by simp [hlt]
  have hft:=formS_take s l hlt;have hln:=formS_len s (l.take i);rw [List.length_take] at hln;have h3:=put64_ac (IntKind.u64.wrap l[i]).toNat;rw [←u64_nn] at h3;have hil:(intS l[i]).length=8:=intS_length _;rw [show putS (IntKind.u64.wrap l[i]).toNat 8=intS l[i] from rfl] at h3;generalize l[i]=n at *;generalize intS n=z at *;have h4:=wcat2_ac (formS s (l.take i)) z (by omega);rw [←hft] at h4;generalize formS s (l.take i)=F at *
  repeat' (first|((first|refine wA7 ?_|((with_reducible apply AP.k_any);first|refine AP.E ?_|refine AP.T ?_)|refine aC1 h3 ?_|refine aC1 h4 ?_|refine wA2 ?_)<;>(try simp only [d1,nx,q4,rn,fq,Nat.mul_one,Bool.and_true,Bool.and_false,Nat.reduceBEq,Nat.reduceAdd,Nat.reduceSub,BEq.rfl]))|refine wT4 ?_|with_reducible intro Q' hQ'|(refine GC ?_;refine ⟨fun hc=>?_,fun hc=>?_⟩)|simp only [la])
  simp only [hw];exact ⟨(i + 1,v + 1),by (dsimp only;omega),by (dsimp only;omega),by (dsimp only;exact Gh.W)⟩
 ·obtain rfl:i=l.length:=by omega
  have d1:decide ((l.length:Int) < (l.length:Int))=false:=by simp
  rw [List.take_of_length_le (Nat.le_refl _)];generalize formS s l=F at *
  repeat' (first|((first|refine wA7 ?_|((with_reducible apply AP.k_any);first|refine AP.E ?_|refine AP.T ?_)|refine wA2 ?_)<;>(try simp only [d1,htm,nx,q4,rn,fq,Nat.mul_one,Bool.and_true,Bool.and_false,Nat.reduceBEq,Nat.reduceAdd,Nat.reduceSub,BEq.rfl]))|refine wT4 ?_|with_reducible intro Q' hQ'|(refine GC ?_;refine ⟨fun hc=>?_,fun hc=>?_⟩)|simp only [la])
  (exact RetQ.A [] (by exact ⟨rfl,rfl⟩))
theorem dform_ac (s:ByteArray) (l:List Int) (hs:s.size≤1000) (hl:l.length≤1000):AC Tryz.prog 214 [.sc (.string s),.sl none 1 (l.map eI)] [] (fun v bs'=>v=bs none (formS s l)∧bs'=[]):=by
 have hsl:s.data.toList.length=s.size:=by simp
 have hlen:(s.data.toList.map eB).length + 1≤1000000000:=by simp;omega
 have e0:roE (s.data.toList.map eB ++ [[AV.sc (.int .u8 0)]])=(formS s (l.take 0)).map eB:=by
  rw [show s.data.toList.map eB ++ [[AV.sc (.int .u8 0)]]=(formS s (l.take 0)).map eB by simp [formS,numS],ro_B]
 refine AC.N Tryz.func214 Tryz.ntmps214 ?_;intro X hρ hmks;refine NX ?_;refine CP.gh gh_slot ?_;refine NX ?_
 repeat' (first|((first|refine wA11 ?_|((with_reducible apply AP.k_any);first|refine AP.E ?_)|refine wA2 ?_)<;>(try simp only [nx,q4,rn,fq,Nat.mul_one,Bool.and_true,Bool.and_false,Nat.reduceBEq,Nat.reduceAdd,Nat.reduceSub,BEq.rfl]))|refine wT4 ?_|with_reducible intro Q' hQ'|(refine GC ?_;refine ⟨fun hc=>?_,fun hc=>?_⟩)|simp only [la])
 refine CP.gh (gh_fzS (b:=0) rfl) ?_;simp only [e0,nx,q4,rn,fq,Nat.mul_one,Bool.and_true,Bool.and_false,Nat.reduceBEq,Nat.reduceAdd,Nat.reduceSub,BEq.rfl];refine cp_loopS [5,6,12,13,14,15,16,17,18,19,20,21,22,23,24,25] (fun i:Nat=>l.length - i) (fun i=>i≤l.length) (fun i=>[(6,I i),(5,bs none (formS s (l.take i)))]) (fun _=>[]) 0 (Nat.zero_le _) (by exact Gh.W) ?_;intro i hi;simp only [setT,deT,setB,List.set_cons_succ,List.set_cons_zero]
 by_cases hlt:i < l.length
 ·have hw:IntKind.i64.wrap ((i:Int) + 1)=((i + 1:Nat):Int):=wrap_i64 (by omega) (by omega);have d1:decide ((i:Int) < (l.length:Int))=true:=by simp;omega
  have hx:(l.map eI)[i]? = some (eI l[i]):=by simp [hlt]
  have hft:=formS_take s l hlt;have hln:=formS_len s (l.take i);rw [List.length_take] at hln;have h3:=(rput_ac (IntKind.u64.wrap l[i]).toNat 8 (by omega) (wrap_u64_lt l[i])).ro (r2:=bs none (intS l[i])) (by simp only [AV.ro,ro_B];rfl);rw [←u64_nn] at h3;have hil:(intS l[i]).length=8:=intS_length _;generalize l[i]=n at *;generalize intS n=z at *;have h4:=(cat_ac (formS s (l.take i)) z (by omega) (by omega)).ro (r2:=bs none (formS s (l.take i) ++ z)) (by simp only [AV.ro,ro_B]);rw [←hft] at h4;generalize formS s (l.take i)=F at *
  repeat' (first|((first|refine wA7 ?_|((with_reducible apply AP.k_any);first|refine AP.E ?_)|refine aC1 h3 ?_|refine aC1 h4 ?_|refine wA2 ?_)<;>(try simp only [d1,nx,q4,rn,fq,Nat.mul_one,Bool.and_true,Bool.and_false,Nat.reduceBEq,Nat.reduceAdd,Nat.reduceSub,BEq.rfl]))|refine wT4 ?_|with_reducible intro Q' hQ'|(refine GC ?_;refine ⟨fun hc=>?_,fun hc=>?_⟩)|simp only [la])
  simp only [hw];exact ⟨i + 1,by omega,by omega,by exact Gh.W⟩
 ·obtain rfl:i=l.length:=by omega
  have d1:decide ((l.length:Int) < (l.length:Int))=false:=by simp
  rw [List.take_of_length_le (Nat.le_refl _)];generalize formS s l=F at *
  repeat' (first|((first|refine wA7 ?_|((with_reducible apply AP.k_any);first|refine AP.E ?_)|refine wA2 ?_)<;>(try simp only [d1,nx,q4,rn,fq,Nat.mul_one,Bool.and_true,Bool.and_false,Nat.reduceBEq,Nat.reduceAdd,Nat.reduceSub,BEq.rfl]))|refine wT4 ?_|with_reducible intro Q' hQ'|(refine GC ?_;refine ⟨fun hc=>?_,fun hc=>?_⟩)|simp only [la])
  (exact RetQ.A [] (by exact ⟨rfl,rfl⟩))
theorem dderive_ac (key:List UInt8) (s:ByteArray) (l:List Int) (hk:key.length≤100000) (hs:s.size≤1000) (hl:l.length≤1000):AC Tryz.prog 168 [bs none key,.sc (.string s),.sl none 1 (l.map eI)] [] (fun v bs'=>v=bs none (deriveS key s l)∧bs'=[]):=by
 have h1:=dform_ac s l hs hl;have hfl:=formS_len s l;have h5:=dhmac_ac key (formS s l) (by omega) (by omega);have h6:=(dbytes03_ac (hmacS key (formS s l)) (hmacS_len _ _)).ro (r2:=bs none (hmacS key (formS s l))) (by simp only [AV.ro,ro_B]);unfold deriveS;generalize hmacS key (formS s l)=t at *;generalize formS s l=F at *;refine AC.N Tryz.func168 Tryz.ntmps168 ?_;intro X hρ hmks;refine NX ?_
 repeat' (first|((first|refine wA7 ?_|refine wA2 ?_)<;>(try simp only [nx,q4,rn,fq,Nat.mul_one,Bool.and_true,Bool.and_false,Nat.reduceBEq,Nat.reduceAdd,Nat.reduceSub,BEq.rfl]))|refine wT4 ?_|with_reducible intro Q' hQ'|(refine GC ?_;refine ⟨fun hc=>?_,fun hc=>?_⟩)|simp only [la])
 (exact RetQ.A [] (by exact ⟨rfl,rfl⟩))
def lkS:ByteArray:=⟨#[108,105,110,107]⟩
def tagS (root:List UInt8) (p:Pkt):List UInt8:=hmacS (deriveS root lkS [p.frm,p.to,p.epoch]) (headS p)
theorem tagS_len (root:List UInt8) (p:Pkt):(tagS root p).length=32:=rfl
theorem done_ac (b:List UInt8) (hb:b.length≤65536):AC Tryz.prog 94 [.bp 0 0 0] [wB (false,b)] (fun v bs'=>v=.tu [bs none b,I 0]∧bs'=[wD (false,b)]):=wdone_ac (false,b) hb
theorem ltag_ac (root:List UInt8) (p:Pkt) (hr:root.length≤10000) (hp:p.body.length≤60000):AC Tryz.prog 55 [bs none root,.ag (eP p)] [] (fun v bs'=>v=tg (tagS root p)∧bs'=[]):=by
 have hl:=headS_len p;have h1:=head_ac p hp;have h2:=done_ac (headS p) (by omega);have h3:=hderive_ac root lkS [p.frm,p.to,p.epoch] (by omega) (by decide) (by simp);have hd:(deriveS root lkS [p.frm,p.to,p.epoch]).length=32:=hmacS_len _ _;have h4:=hmac_ac (deriveS root lkS [p.frm,p.to,p.epoch]) (headS p) (by omega) (by omega);unfold tagS;generalize deriveS root lkS [p.frm,p.to,p.epoch]=k at *;generalize headS p=hd at *;generalize hmacS k hd=t at *;refine AC.N Tryz.func55 Tryz.ntmps55 ?_;intro X hρ hmks;refine NX ?_;refine CP.gh gh_slot ?_;refine NX ?_
 refine CP.gh gh_slot ?_;refine NX ?_
 refine CP.gh gh_slot ?_;refine NX ?_
 refine CP.gh gh_slot ?_;refine NX ?_
 repeat' (first|((first|refine wA7 ?_|refine aC5 h1 ?_|refine aC4 h2 ?_|refine aC1 h3 ?_|refine aC1 h4 ?_|refine wA2 ?_)<;>(try simp only [nx,q4,rn,fq,Nat.mul_one,Bool.and_true,Bool.and_false,Nat.reduceBEq,Nat.reduceAdd,Nat.reduceSub,BEq.rfl]))|refine wT4 ?_|with_reducible intro Q' hQ'|(refine GC ?_;refine ⟨fun hc=>?_,fun hc=>?_⟩)|simp only [la])
 (exact RetQ.A [] (by exact ⟨rfl,rfl⟩))
theorem right_ac (root:List UInt8) (p:Pkt) (hr:root.length≤10000) (hp:p.body.length≤60000) (ht:p.tag.length=32):AC Tryz.prog 20 [bs none root,.ag (eP p)] [] (fun v bs'=>v=B (decide (p.tag=tagS root p))∧bs'=[]):=by
 have h1:=ltag_ac root p hr hp;have h2:=hsame_ac p.tag (tagS root p) ht (tagS_len root p);generalize decide (p.tag=tagS root p)=r at *;generalize tagS root p=t at *;refine AC.N Tryz.func20 Tryz.ntmps20 ?_;intro X hρ hmks;refine NX ?_;refine CP.gh gh_slot ?_;refine NX ?_
 repeat' (first|((first|refine wA7 ?_|refine wA2 ?_|refine wD5 ?_)<;>(try simp only [nx,q4,rn,fq,Nat.mul_one,Bool.and_true,Bool.and_false,Nat.reduceBEq,Nat.reduceAdd,Nat.reduceSub,BEq.rfl]))|refine wT5 ?_|with_reducible intro Q' hQ'|(refine GC ?_;refine ⟨fun hc=>?_,fun hc=>?_⟩)|simp only [la])
 (exact RetQ.A [] (by exact ⟨rfl,rfl⟩))
abbrev ePO (p:Pkt):List AV:=[I p.frm,I p.to,I p.epoch,I p.boot,I p.seqn,bs (some tU) p.body] ++ tagC p.tag
theorem lprint_ac (p:Pkt) (hp:p.body.length≤60000) (ht:p.tag.length=32):AC Tryz.prog 134 [.ag (eP p)] [] (fun v bs'=>v=.tu [if mayP p then bs none (headS p ++ p.tag) else bs none [],I (if mayP p then 0 else 2)]∧bs'=[]):=by
 have hl:=headS_len p;have h0:=mayP_ac p;have h1:=head_ac p hp;have h2:=wtag_ac (false,headS p) p.tag (by dsimp only;omega) ht;rw [haddS_ok (by omega)] at h2;have h3:=done_ac (headS p ++ p.tag) (by simp;omega);generalize headS p ++ p.tag=x at *;generalize headS p=hd at *
 cases hm:mayP p with
 | true=>
  rw [hm] at h0;refine AC.N Tryz.func134 Tryz.ntmps134 ?_;intro X hρ hmks;refine NX ?_;refine CP.gh gh_slot ?_;refine NX ?_
  refine CP.gh gh_slot ?_;refine NX ?_
  refine CP.gh gh_slot ?_;refine NX ?_
  repeat' (first|((first|refine wA7 ?_|refine aC5 h1 ?_|refine aC4 h2 ?_|refine aC4 h3 ?_|refine wA2 ?_|refine wD5 ?_|refine dC4 h1 ?_|refine dC3 h2 ?_|refine dC3 h3 ?_)<;>(try simp only [nx,q4,rn,fq,Nat.mul_one,Bool.and_true,Bool.and_false,Nat.reduceBEq,Nat.reduceAdd,Nat.reduceSub,BEq.rfl]))|refine wT5 ?_|with_reducible intro Q' hQ'|(refine GC ?_;refine ⟨fun hc=>?_,fun hc=>?_⟩)|simp only [la])
  (exact RetQ.A [] (by exact ⟨rfl,rfl⟩))
 | false=>
  rw [hm] at h0;refine AC.N Tryz.func134 Tryz.ntmps134 ?_;intro X hρ hmks;refine NX ?_
  repeat' (first|((first|refine wA7 ?_|refine wA2 ?_|refine wD5 ?_)<;>(try simp only [nx,q4,rn,fq,Nat.mul_one,Bool.and_true,Bool.and_false,Nat.reduceBEq,Nat.reduceAdd,Nat.reduceSub,BEq.rfl]))|refine wT5 ?_|with_reducible intro Q' hQ'|(refine GC ?_;refine ⟨fun hc=>?_,fun hc=>?_⟩)|simp only [la])
  (exact RetQ.A [] (by exact ⟨rfl,rfl⟩))
end Go.Proofs.YtifebijohmlnbaaGreat
