/- Parts. -/
import Derived.Test.YtnjllcnjcpfbhaaGreatZS26
namespace Go.Proofs.YtnjllcnjcpfbhaaGreat
set_option linter.unusedVariables false
set_option linter.unusedSimpArgs false
open Go.RowKit Go.Proofs.Tryz
set_option maxRecDepth 100000
set_option maxHeartbeats 8000000
theorem wN34 {G G':Prop} (K:G') (h:G'->G:=by (intro kz;simp only [q5,w3,w4,w5,w6,w7,nq,Nat.reduceBEq,Nat.reduceAdd,Nat.reduceSub];exact kz)):G:=h K
theorem load64p_ac (b:List UInt8) (p:Int) (hb:b.length<=100000000) (hp:p<=200000000) (hp2:-1000000<=p):AF 83 [bs none b,I p] (.tu [.sc (.int .u64 ((loadS b p 8).1:Int)),B (loadS b p 8).2]):=by
 have h:=load_ac b p 8 (by omega) hb hp hp2;refine AC.E func83 ntmps83 ?_;intros
 repeat' (first|((first|refine wA2 ?_|refine aC1 h ?_)<;>try refine NX ?_)|refine wT2 ?_|with_reducible intro Q' hQ'|(refine GC ?_ ?_<;>intro hc)|simp only [laq])
 (refine RB1 ?_;(exact ⟨rfl,rfl⟩))
def numT (b:List UInt8) (p:Int):Int×Bool:=(IntKind.i64.wrap ((loadS b p 8).1:Int),(loadS b p 8).2 && decide (((loadS b p 8).1:Int)<=1099511627776))
theorem numT_ok {b:List UInt8} {p:Int} (h:(numT b p).2=true):0<=(numT b p).1/\(numT b p).1<=1099511627776:=by
 simp only [numT,Bool.and_eq_true,decide_eq_true_eq] at h ⊢;rw [wrap_i64 (by omega) (by omega)];omega
theorem tnumber_ac (b:List UInt8) (p:Int) (hb:b.length<=100000000) (hp:p<=200000000) (hp2:-1000000<=p):AF 45 [bs none b,I p] (.tu [I (numT b p).1,B (numT b p).2]):=by
 have h:=load64p_ac b p hb hp hp2;unfold numT;generalize loadS b p 8=L at *;obtain ⟨n,k⟩:=L;dsimp only at h ⊢
 cases k with
 | false=>
  refine AC.E func45 ntmps45 ?_;intros
  repeat' (first|((first|refine wA1 ?_|(refine GA ?_ ?_<;>intro hg)|(refine GV ?_;intros;simp only [nz])|refine wA6 ?_)<;>try refine NQ ?_)|refine wT3 ?_|with_reducible intro Q' hQ'|(refine GC ?_ ?_<;>intro hc)|simp only [laq])
  exact RA0
 | true=>
  refine AC.E func45 ntmps45 ?_;intros
  repeat' (first|((first|refine wA1 ?_|(refine GA ?_ ?_<;>intro hg)|(refine GV ?_;intros;simp only [nz])|refine wA6 ?_)<;>try refine NQ ?_)|refine wT3 ?_|with_reducible intro Q' hQ'|(refine GC ?_ ?_<;>intro hc)|simp only [laq])
  exact RA0
theorem tnone_ac:AF 44 [] (.tu [.ag (eTok tok0),I 90]):=by
 refine AC.E func44 ntmps44 ?_;intros
 repeat' (first|((first|refine wA1 ?_|(refine GA ?_ ?_<;>intro hg)|(refine GV ?_;intros;simp only [nz])|refine wA6 ?_)<;>try refine NQ ?_)|refine wT3 ?_|with_reducible intro Q' hQ'|(refine GC ?_ ?_<;>intro hc)|simp only [laq])
 exact RA0
def tokP (t:Tok):List UInt8:=if mayT t=true then nuL [t.ten,(t.line.length:Int)] ++ t.line.flatMap grN ++ t.tag else []
theorem grN_flat_len:∀ l:List Gr,(l.flatMap grN).length=24 * l.length
 | []=>rfl
 | g :: l=>by rw [List.flatMap_cons,List.length_append,grN_len,grN_flat_len l,List.length_cons];omega
theorem tprintO_ac (t:Tok) (ht:t.tag.length=32) (hl:t.line.length<=1000000):AF 62 [.ag (eTok t)] (bs (some tU) (tokP t)):=by
 have h1:=tmay_ac t hl;unfold tokP
 cases hm:mayT t with
 | false=>
  rw [hm] at h1;rw [if_neg (by simp)];refine AC.E func62 ntmps62 ?_;intros;iterate 2 refine CP.SL ?_
  repeat' (first|((first|refine wA1 ?_|(refine GA ?_ ?_<;>intro hg)|(refine GV ?_;intros;simp only [nz])|refine wA6 ?_)<;>try refine NQ ?_)|refine wT3 ?_|with_reducible intro Q' hQ'|(refine GC ?_ ?_<;>intro hc)|simp only [laq])
  exact RA0
 | true=>
  rw [hm] at h1;rw [if_pos rfl];obtain ⟨ten,l,tag⟩:=t;dsimp only at *;have h2:=tnums_ac [ten,(l.length:Int)] (by simp);have hn:(nuL [ten,(l.length:Int)]).length=16:=by rw [nuL_length];rfl
  generalize nuL [ten,(l.length:Int)]=n1 at *;have htm:=tagC_map ht;simp only [tagC,List.map_cons,List.map_nil] at htm;refine AC.E func62 ntmps62 ?_;intros
  repeat' (first|((first|refine wA1 ?_|(refine GA ?_ ?_<;>intro hg)|(refine GV ?_;intros;simp only [nz])|refine wA6 ?_)<;>try refine NQ ?_)|refine wT3 ?_|with_reducible intro Q' hQ'|(refine GC ?_ ?_<;>intro hc)|simp only [laq])
  refine CP.SL ?_;refine cp_loopS [3,5,19,20,21,22,23,24,25,26,27] (fun a:Nat=>l.length - a) (fun a=>a<=l.length) (fun a=>[(19,I a),(3,.hd 2 (a + 1))]) (fun a=>[(2,⟨a + 1,.r tU 1 ((n1 ++ (l.take a).flatMap grN).map eB)⟩),(3,⟨a,.x⟩)]) 0 (Nat.zero_le _) (by (simp only [List.take_zero,List.flatMap_nil,List.append_nil];exact Gh.W)) ?_;intro a ha;refine ST0 ?_
  by_cases hlt:a < l.length
  ·have q2:decide ((a:Int) < (l.length:Int))=true:=by simp;omega
   have q3:IntKind.i64.wrap ((a:Int) + 1)=((a + 1:Nat):Int):=wrap_i64 (by omega) (by omega);have hr1:(l.map eGr)[a]? = some (eGr l[a]):=by rw [List.getElem?_map,List.getElem?_eq_getElem hlt];rfl
   have h5:=tgrant_ac l[a];have hgl:=grN_len l[a];have hml:=grN_flat_len (l.take a);rw [List.length_take] at hml
   have e5:(n1 ++ (l.take (a + 1)).flatMap grN).map eB=(n1 ++ (l.take a).flatMap grN).map eB ++ (grN l[a]).map eB:=by
    rw [List.take_succ_eq_append_getElem hlt,List.flatMap_append,List.flatMap_cons,List.flatMap_nil,List.append_nil,←List.append_assoc,List.map_append]
   have hlb:((n1 ++ (l.take a).flatMap grN).map eB).length + ((grN l[a]).map eB).length<=1000000000:=by rw [List.length_map,List.length_map,List.length_append];omega
   have hlb2:(n1 ++ (l.take a).flatMap grN).length + (grN l[a]).length<=1000000000:=by rw [List.length_append];omega
   generalize n1 ++ (l.take a).flatMap grN=A at *;generalize grN l[a]=n at *;generalize l[a]=x at *
   repeat' (first|((first|refine wA1 ?_|(refine GA ?_ ?_<;>intro hg)|(refine GV ?_;intros;simp only [nz])|refine wA6 ?_)<;>try refine wN4 ?_)|refine wT3 ?_|with_reducible intro Q' hQ'|(refine GC ?_ ?_<;>intro hc)|simp only [laq])
   refine ⟨a + 1,by omega,by omega,?_⟩;rw [e5];exact Gh.W
  ·obtain rfl:a=l.length:=by omega
   have q2:decide ((l.length:Int) < (l.length:Int))=false:=by simp
   have hml:=grN_flat_len l;rw [List.take_length];have hl1:((n1 ++ l.flatMap grN).map eB).length + 32<=1000000000:=by rw [List.length_map,List.length_append];omega
   have hl':(n1 ++ l.flatMap grN).length + 32<=1000000000:=by rw [List.length_append];omega
   generalize n1 ++ l.flatMap grN=A at *
   repeat' (first|((first|refine wA1 ?_|(refine GA ?_ ?_<;>intro hg)|(refine GV ?_;intros;simp only [nz])|refine wA21 ?_|refine wA6 ?_)<;>(try simp only [q2,htm,←List.map_append,nq,Nat.reduceBEq,Nat.reduceAdd,Nat.reduceSub]))|refine wT3 ?_|with_reducible intro Q' hQ'|(refine GC ?_ ?_<;>intro hc)|simp only [laq])
   exact RA0
theorem tprint_ac (t:Tok) (ht:t.tag.length=32) (hl:t.line.length<=1000000):AF 62 [.ag (eTok t)] (bs none (tokP t)):=(tprintO_ac t ht hl).ro (by simp [AV.ro,ro_B])
def grT (b:List UInt8) (i:Nat):Option Gr:=
 if (numT b (16 + 24 * i)).2=true/\(numT b (24 + 24 * i)).2=true/\(numT b (32 + 24 * i)).2=true/\(numT b (16 + 24 * i)).1<=255 then some ⟨UInt8.ofNat (numT b (16 + 24 * i)).1.toNat,(numT b (24 + 24 * i)).1,(numT b (32 + 24 * i)).1⟩ else none
def parL (b:List UInt8):Nat->Option (List Gr)
 | 0=>some []
 | k + 1=>match parL b k with
  | none=>none
  | some l=>match grT b k with
   | none=>none
   | some g=>some (l ++ [g])
theorem parL_none {b:List UInt8} {k:Nat} (h:parL b k=none):∀ n,parL b (k + n)=none
 | 0=>h
 | n + 1=>by rw [←Nat.add_assoc,parL,parL_none h n]
theorem parL_len {b:List UInt8}:∀ {k:Nat} {l:List Gr},parL b k=some l->l.length=k
 | 0,l,h=>by cases h;rfl
 | k + 1,l,h=>by
  rw [parL] at h
  cases h1:parL b k with
  | none=>rw [h1] at h;cases h
  | some m=>
   rw [h1] at h
   cases h2:grT b k with
   | none=>rw [h2] at h;cases h
   | some g=>rw [h2] at h;cases h;rw [List.length_append,parL_len h1];rfl
def parT (b:List UInt8):Tok×Int:=
 if b.length < 48\/(numT b 0).2=false\/(numT b 8).2=false\/(numT b 8).1 < 1\/4 < (numT b 8).1\/(b.length:Int)≠48 + 24 * (numT b 8).1 then (tok0,90)
 else match parL b (numT b 8).1.toNat with
  | none=>(tok0,90)
  | some l=>if mayT ⟨(numT b 0).1,l,b.drop (16 + 24 * (numT b 8).1.toNat)⟩=true then (⟨(numT b 0).1,l,b.drop (16 + 24 * (numT b 8).1.toNat)⟩,0) else (tok0,90)
theorem flat_eB:∀ t:List UInt8,(t.map eB).flatten=t.map U
 | []=>rfl
 | x :: t=>by rw [List.map_cons,List.flatten_cons,flat_eB t];rfl
theorem cpy_tag {x y:AV} {t z:List UInt8} (ht:t.length=32):cpy (x :: y :: tagC z) 2 (t.map U)=x :: y :: tagC t:=by
 have h:tagC t=t.map U:=by
  have:=congrArg List.flatten (tagC_map ht);rw [←List.flatMap_def,List.flatMap_singleton'] at this;rw [this];exact flat_eB t
 rw [h];unfold cpy;rw [List.length_map,ht];simp [tagC]
theorem tparse_ac (b:List UInt8) (hb:b.length<=1000000):AF 14 [bs none b] (.tu [.ag (eTok (parT b).1),I (parT b).2]):=by
 have h0:=tnone_ac
 by_cases c0:b.length < 48
 ·rw [show parT b=(tok0,90) from if_pos (.inl c0)];have q1:decide ((b.length:Int) < 48)=true:=decide_eq_true (by omega);refine AC.E func14 ntmps14 ?_;intros;iterate 4 refine CP.SL ?_
  repeat' (first|((first|refine aC1 h0 ?_|refine wA1 ?_|(refine GA ?_ ?_<;>intro hg)|(refine GV ?_;intros;simp only [nz])|refine wA6 ?_|refine wD4 ?_|refine dC1 h0 ?_)<;>try refine wN0 ?_)|refine wT6 ?_|with_reducible intro Q' hQ'|(refine GC ?_ ?_<;>intro hc)|simp only [laq])
  exact RA0
 have q1:decide ((b.length:Int) < 48)=false:=decide_eq_false (by omega);have h1:=tnumber_ac b 0 (by omega) (by omega) (by omega);have h2:=tnumber_ac b 8 (by omega) (by omega) (by omega)
 cases c1:(numT b 0).2 with
 | false=>
  rw [show parT b=(tok0,90) from if_pos (.inr (.inl c1))];rw [c1] at h1;refine AC.E func14 ntmps14 ?_;intros;iterate 4 refine CP.SL ?_
  repeat' (first|((first|refine aC1 h1 ?_|refine aC1 h2 ?_|refine aC1 h0 ?_|refine wA1 ?_|(refine GA ?_ ?_<;>intro hg)|(refine GV ?_;intros;simp only [nz])|refine wA6 ?_|refine wD4 ?_|refine dC1 h1 ?_|refine dC1 h2 ?_|refine dC1 h0 ?_)<;>try refine wN0 ?_)|refine wT6 ?_|with_reducible intro Q' hQ'|(refine GC ?_ ?_<;>intro hc)|simp only [laq])
  exact RA0
 | true=>
 rw [c1] at h1
 cases c2:(numT b 8).2 with
 | false=>
  rw [show parT b=(tok0,90) from if_pos (.inr (.inr (.inl c2)))];rw [c2] at h2;refine AC.E func14 ntmps14 ?_;intros;iterate 4 refine CP.SL ?_
  repeat' (first|((first|refine aC1 h1 ?_|refine aC1 h2 ?_|refine aC1 h0 ?_|refine wA1 ?_|(refine GA ?_ ?_<;>intro hg)|(refine GV ?_;intros;simp only [nz])|refine wA6 ?_|refine wD4 ?_|refine dC1 h1 ?_|refine dC1 h2 ?_|refine dC1 h0 ?_)<;>try refine wN0 ?_)|refine wT6 ?_|with_reducible intro Q' hQ'|(refine GC ?_ ?_<;>intro hc)|simp only [laq])
  exact RA0
 | true=>
 rw [c2] at h2
 by_cases c3:(numT b 8).1 < 1
 ·rw [show parT b=(tok0,90) from if_pos (.inr (.inr (.inr (.inl c3))))];have q2:=decide_eq_true c3;generalize (numT b 8).1=n at *;refine AC.E func14 ntmps14 ?_;intros;iterate 4 refine CP.SL ?_
  repeat' (first|((first|refine aC1 h1 ?_|refine aC1 h2 ?_|refine aC1 h0 ?_|refine wA1 ?_|(refine GA ?_ ?_<;>intro hg)|(refine GV ?_;intros;simp only [nz])|refine wA6 ?_|refine wD4 ?_|refine dC1 h1 ?_|refine dC1 h2 ?_|refine dC1 h0 ?_)<;>try refine wN1 ?_)|refine wT6 ?_|with_reducible intro Q' hQ'|(refine GC ?_ ?_<;>intro hc)|simp only [laq])
  exact RA0
 by_cases c4:4 < (numT b 8).1
 ·rw [show parT b=(tok0,90) from if_pos (.inr (.inr (.inr (.inr (.inl c4)))))];have q2:=decide_eq_false c3;have q3:=decide_eq_true c4;generalize (numT b 8).1=n at *;refine AC.E func14 ntmps14 ?_;intros;iterate 4 refine CP.SL ?_
  repeat' (first|((first|refine aC1 h1 ?_|refine aC1 h2 ?_|refine aC1 h0 ?_|refine wA1 ?_|(refine GA ?_ ?_<;>intro hg)|(refine GV ?_;intros;simp only [nz])|refine wA6 ?_|refine wD4 ?_|refine dC1 h1 ?_|refine dC1 h2 ?_|refine dC1 h0 ?_)<;>try refine wN18 ?_)|refine wT6 ?_|with_reducible intro Q' hQ'|(refine GC ?_ ?_<;>intro hc)|simp only [laq])
  exact RA0
 have q2:=decide_eq_false c3;have q3:=decide_eq_false c4;obtain ⟨N,hN⟩:∃ N:Nat,(numT b 8).1=(N:Int):=⟨(numT b 8).1.toNat,by omega⟩;have w1:IntKind.i64.wrap (24 * (N:Int))=24 * (N:Int):=wrap_i64 (by omega) (by omega);have w2:IntKind.i64.wrap (48 + 24 * (N:Int))=48 + 24 * (N:Int):=wrap_i64 (by omega) (by omega);rw [hN] at h2 q2 q3
 by_cases c5:(b.length:Int)=48 + 24 * (N:Int)
 rotate_left
 ·rw [show parT b=(tok0,90) from if_pos (.inr (.inr (.inr (.inr (.inr (by rw [hN];exact c5))))))];have q4:((b.length:Int) != 48 + 24 * (N:Int))=true:=by simpa using c5
  refine AC.E func14 ntmps14 ?_;intros;iterate 4 refine CP.SL ?_
  repeat' (first|((first|refine aC1 h1 ?_|refine aC1 h2 ?_|refine aC1 h0 ?_|refine wA1 ?_|(refine GA ?_ ?_<;>intro hg)|(refine GV ?_;intros;simp only [nz])|refine wA6 ?_|refine wD4 ?_|refine dC1 h1 ?_|refine dC1 h2 ?_|refine dC1 h0 ?_)<;>(try simp only [q1,q2,q3,w1,w2,q4,nq,Nat.reduceBEq,Nat.reduceAdd,Nat.reduceSub]))|refine wT6 ?_|with_reducible intro Q' hQ'|(refine GC ?_ ?_<;>intro hc)|simp only [laq])
  exact RA0
 have q4:((b.length:Int) != 48 + 24 * (N:Int))=false:=by simpa using c5
 have hP:parT b=match parL b N with
  | none=>(tok0,90)
  | some l=>if mayT ⟨(numT b 0).1,l,b.drop (16 + 24 * N)⟩=true then (⟨(numT b 0).1,l,b.drop (16 + 24 * N)⟩,0) else (tok0,90):=by
  unfold parT;rw [if_neg (by rw [hN,c1,c2];simp;omega),hN];rfl
 rw [hP];rw [hN] at c3 c4;generalize (numT b 0).1=ten at *;refine AC.E func14 ntmps14 ?_;intros
 repeat' (first|((first|refine aC1 h1 ?_|refine aC1 h2 ?_|refine aC1 h0 ?_|refine wA1 ?_|(refine GA ?_ ?_<;>intro hg)|(refine GV ?_;intros;simp only [nz])|refine wA6 ?_|refine wD4 ?_|refine dC1 h1 ?_|refine dC1 h2 ?_|refine dC1 h0 ?_)<;>(try simp only [q1,q2,q3,w1,w2,q4,nq,Nat.reduceBEq,Nat.reduceAdd,Nat.reduceSub]))|refine wT6 ?_|with_reducible intro Q' hQ'|(refine GC ?_ ?_<;>intro hc)|simp only [laq])
 clear h1 h2;refine CP.gh (gh_nilc (j:=1) (u:=1) (off:=1) (e:=47) (k:=3) rfl rfl) ?_;refine NX ?_;refine CP.SL ?_;refine cp_loopS [3,10,11,12,13,14,15,16,63,64,65,66,67,68,69,70,71,72,73,74,75,76,77,78,79,80,81,82,83,84,85,86,87,88,89,90,91,92,93,94,95,96,97,98,99,100,101,102,103,104,105,106,107,108,109,110,111,112,113,114,115,116,117,118] (fun s:Nat×List Gr=>N - s.1) (fun s=>s.1<=N/\parL b s.1=some s.2) (fun s=>[(63,I s.1)]) (fun s=>[(1,⟨1,.c 60 (I ten :: .hd 2 (s.2.length + 1) :: tagC z32)⟩),(2,⟨s.2.length + 1,.r 47 3 (s.2.map eGr)⟩),(3,⟨s.1,.x⟩)]) (0,[]) ⟨Nat.zero_le _,rfl⟩ (by exact Gh.W) ?_;rintro ⟨a,l⟩ ⟨ha,hinv⟩;dsimp only at ha hinv;have hll:=parL_len hinv;subst hll;generalize hz:tagC z32=Z at *;refine ST0 ?_
 by_cases hlt:l.length < N
 ·have q5:decide ((l.length:Int) < (N:Int))=true:=by simp;omega
  have w3:IntKind.i64.wrap ((l.length:Int) + 1)=((l.length + 1:Nat):Int):=wrap_i64 (by omega) (by omega);have w4:IntKind.i64.wrap (24 * (l.length:Int))=24 * (l.length:Int):=wrap_i64 (by omega) (by omega);have w5:IntKind.i64.wrap (16 + 24 * (l.length:Int))=16 + 24 * (l.length:Int):=wrap_i64 (by omega) (by omega);have w6:IntKind.i64.wrap (24 + 24 * (l.length:Int))=24 + 24 * (l.length:Int):=wrap_i64 (by omega) (by omega);have w7:IntKind.i64.wrap (32 + 24 * (l.length:Int))=32 + 24 * (l.length:Int):=wrap_i64 (by omega) (by omega);have h1:=tnumber_ac b (16 + 24 * (l.length:Int)) (by omega) (by omega) (by omega);have h2:=tnumber_ac b (24 + 24 * (l.length:Int)) (by omega) (by omega) (by omega);have h3:=tnumber_ac b (32 + 24 * (l.length:Int)) (by omega) (by omega) (by omega)
  have hno:grT b l.length=none->parL b N=none:=fun hg=>by
   have:parL b (l.length + 1)=none:=by rw [parL,hinv];simp only [hg]
   rw [show N=l.length + 1 + (N - (l.length + 1)) by omega];exact parL_none this _
  by_cases hg:(numT b (16 + 24 * l.length)).2=true/\(numT b (24 + 24 * l.length)).2=true/\(numT b (32 + 24 * l.length)).2=true/\(numT b (16 + 24 * l.length)).1<=255
  ·have hgr:grT b l.length=some ⟨UInt8.ofNat (numT b (16 + 24 * l.length)).1.toNat,(numT b (24 + 24 * l.length)).1,(numT b (32 + 24 * l.length)).1⟩:=if_pos hg;obtain ⟨g1,g2,g3,g4⟩:=hg;have b1:=(numT_ok g1).1;have hP1:parL b (l.length + 1)=some (l ++ [⟨UInt8.ofNat (numT b (16 + 24 * l.length)).1.toNat,(numT b (24 + 24 * l.length)).1,(numT b (32 + 24 * l.length)).1⟩]):=by rw [parL,hinv];simp only [hgr]
   clear hno hgr;rw [g1] at h1;rw [g2] at h2;rw [g3] at h3;generalize (numT b (24 + 24 * l.length)).1=ex at *;generalize (numT b (32 + 24 * l.length)).1=se at *
   have w8:IntKind.u8.wrap (numT b (16 + 24 * l.length)).1=((UInt8.ofNat (numT b (16 + 24 * l.length)).1.toNat).toNat:Int):=by
    generalize (numT b (16 + 24 * l.length)).1=r at *;obtain ⟨m,rfl⟩:∃ m:Nat,r=m:=⟨r.toNat,by omega⟩;rw [wrap_u8n (by omega)];simp;omega
   have q6:decide (255 < (numT b (16 + 24 * l.length)).1)=false:=decide_eq_false (by omega);generalize UInt8.ofNat (numT b (16 + 24 * l.length)).1.toNat=rb at *;generalize (numT b (16 + 24 * l.length)).1=r at *;have hl1:(l.map eGr).length + 1<=1000000000:=by rw [List.length_map];omega
   have e5:(l ++ [(⟨rb,ex,se⟩:Gr)]).map eGr=l.map eGr ++ [eGr ⟨rb,ex,se⟩]:=List.map_append;have e6:(l ++ [(⟨rb,ex,se⟩:Gr)]).length=l.length + 1:=by rw [List.length_append];rfl
   repeat' (first|((first|refine aC1 h1 ?_|refine aC1 h2 ?_|refine aC1 h3 ?_|refine wA1 ?_|(refine GA ?_ ?_<;>intro hg)|(refine GV ?_;intros;simp only [nz])|refine wA6 ?_|refine wD4 ?_|refine dC1 h1 ?_|refine dC1 h2 ?_|refine dC1 h3 ?_)<;>(try simp only [q5,q6,w3,w4,w5,w6,w7,w8,nq,Nat.reduceBEq,Nat.reduceAdd,Nat.reduceSub]))|refine wT6 ?_|with_reducible intro Q' hQ'|(refine GC ?_ ?_<;>intro hc)|simp only [laq])
   refine ⟨(l.length + 1,l ++ [⟨rb,ex,se⟩]),by (dsimp only;omega),⟨by (dsimp only;omega),hP1⟩,?_⟩;simp only [e5,e6];exact Gh.W
  ·rw [hno (if_neg hg)];clear hno
   cases g1:(numT b (16 + 24 * l.length)).2 with
   | false=>
    rw [g1] at h1
    repeat' (first|((first|refine aC1 h1 ?_|refine aC1 h2 ?_|refine aC1 h3 ?_|refine aC1 h0 ?_|refine wA1 ?_|(refine GA ?_ ?_<;>intro hg)|(refine GV ?_;intros;simp only [nz])|refine wA6 ?_|refine wD4 ?_|refine dC1 h1 ?_|refine dC1 h2 ?_|refine dC1 h3 ?_|refine dC1 h0 ?_)<;>try refine wN34 ?_)|refine wT6 ?_|with_reducible intro Q' hQ'|(refine GC ?_ ?_<;>intro hc)|simp only [laq])
    exact RA0
   | true=>
   cases g2:(numT b (24 + 24 * l.length)).2 with
   | false=>
    rw [g1] at h1;rw [g2] at h2
    repeat' (first|((first|refine aC1 h1 ?_|refine aC1 h2 ?_|refine aC1 h3 ?_|refine aC1 h0 ?_|refine wA1 ?_|(refine GA ?_ ?_<;>intro hg)|(refine GV ?_;intros;simp only [nz])|refine wA6 ?_|refine wD4 ?_|refine dC1 h1 ?_|refine dC1 h2 ?_|refine dC1 h3 ?_|refine dC1 h0 ?_)<;>try refine wN34 ?_)|refine wT6 ?_|with_reducible intro Q' hQ'|(refine GC ?_ ?_<;>intro hc)|simp only [laq])
    exact RA0
   | true=>
   cases g3:(numT b (32 + 24 * l.length)).2 with
   | false=>
    rw [g1] at h1;rw [g2] at h2;rw [g3] at h3
    repeat' (first|((first|refine aC1 h1 ?_|refine aC1 h2 ?_|refine aC1 h3 ?_|refine aC1 h0 ?_|refine wA1 ?_|(refine GA ?_ ?_<;>intro hg)|(refine GV ?_;intros;simp only [nz])|refine wA6 ?_|refine wD4 ?_|refine dC1 h1 ?_|refine dC1 h2 ?_|refine dC1 h3 ?_|refine dC1 h0 ?_)<;>try refine wN34 ?_)|refine wT6 ?_|with_reducible intro Q' hQ'|(refine GC ?_ ?_<;>intro hc)|simp only [laq])
    exact RA0
   | true=>
    rw [g1] at h1;rw [g2] at h2;rw [g3] at h3
    have g4:255 < (numT b (16 + 24 * l.length)).1:=by
     rcases Int.lt_or_le 255 (numT b (16 + 24 * l.length)).1 with h|h
     ·exact h
     ·exact absurd ⟨g1,g2,g3,h⟩ hg
    have q6:=decide_eq_true g4
    repeat' (first|((first|refine aC1 h1 ?_|refine aC1 h2 ?_|refine aC1 h3 ?_|refine aC1 h0 ?_|refine wA1 ?_|(refine GA ?_ ?_<;>intro hg)|(refine GV ?_;intros;simp only [nz])|refine wA6 ?_|refine wD4 ?_|refine dC1 h1 ?_|refine dC1 h2 ?_|refine dC1 h3 ?_|refine dC1 h0 ?_)<;>(try simp only [q5,w3,w4,w5,w6,w7,q6,nq,Nat.reduceBEq,Nat.reduceAdd,Nat.reduceSub]))|refine wT6 ?_|with_reducible intro Q' hQ'|(refine GC ?_ ?_<;>intro hc)|simp only [laq])
    exact RA0
 ·obtain rfl:l.length=N:=by omega
  rw [hinv];dsimp only;have q5:decide ((l.length:Int) < (l.length:Int))=false:=by simp
  have w3:IntKind.i64.wrap (16 + 24 * (l.length:Int))=((16 + 24 * l.length:Nat):Int):=by rw [wrap_i64 (by omega) (by omega)];omega
  have htl:(b.drop (16 + 24 * l.length)).length=32:=by rw [List.length_drop];omega
  have h1:=tmay_ac ⟨ten,l,b.drop (16 + 24 * l.length)⟩ (by dsimp only;omega);have hct:=cpy_tag (x:=I ten) (y:=.sl none 3 (l.map eGr)) (z:=z32) htl;have hb2:16 + 24 * l.length<=b.length:=by omega
  generalize hT:b.drop (16 + 24 * l.length)=T at *;refine CP.gh (gh_fzS (b:=2) rfl) ?_;simp only [roGr,nq,Nat.reduceBEq,Nat.reduceAdd,Nat.reduceSub];subst hz;have hTt:T.take (b.length - (16 + 24 * l.length))=T:=List.take_of_length_le (by omega);have e8:T.take 32=T:=List.take_of_length_le (by omega)
  cases hm:mayT ⟨ten,l,T⟩ with
  | false=>
   rw [hm] at h1;rw [if_neg (by simp)]
   repeat' (first|((first|refine wA1 ?_|(refine GA ?_ ?_<;>intro hg)|(refine GV ?_;intros;simp only [nz])|refine wA6 ?_)<;>(try simp only [q5,nq,Nat.reduceBEq,Nat.reduceAdd,Nat.reduceSub]))|refine wT8 ?_|with_reducible intro Q' hQ'|(refine GC ?_ ?_<;>intro hc)|simp only [laq])
   first|refine cp_drwX fun Q' hQ'=>?_|refine cp_drawX ?_
   iterate 7 (((with_reducible apply DW.k_any);refine DW.ST ?_)<;>(try simp only [w1,w3,hT,hTt,htl,nq,Nat.reduceBEq,Nat.reduceAdd,Nat.reduceSub]))
   iterate 1 (((with_reducible apply DW.k_any);refine DW.ST ?_)<;>(try simp only [w1,w3,hT,hTt,htl,e8,flat_eB,Nat.min_self,nq,Nat.reduceBEq,Nat.reduceAdd,Nat.reduceSub]))
   generalize hC:cpy _ 2 _=C;obtain rfl:C=I ten :: .sl none 3 (l.map eGr) :: tagC T:=hC.symm.trans hct;clear hC;dsimp only [tagC]
   repeat' (first|((first|refine wA1 ?_|(refine GA ?_ ?_<;>intro hg)|(refine GV ?_;intros;simp only [nz])|refine wA6 ?_|refine wD1 ?_)<;>try refine NQ ?_)|refine wT6 ?_|with_reducible intro Q' hQ'|(refine GC ?_ ?_<;>intro hc)|simp only [laq])
   exact RA0
  | true=>
   rw [hm] at h1;rw [if_pos rfl]
   repeat' (first|((first|refine wA1 ?_|(refine GA ?_ ?_<;>intro hg)|(refine GV ?_;intros;simp only [nz])|refine wA6 ?_)<;>(try simp only [q5,nq,Nat.reduceBEq,Nat.reduceAdd,Nat.reduceSub]))|refine wT8 ?_|with_reducible intro Q' hQ'|(refine GC ?_ ?_<;>intro hc)|simp only [laq])
   first|refine cp_drwX fun Q' hQ'=>?_|refine cp_drawX ?_
   iterate 7 (((with_reducible apply DW.k_any);refine DW.ST ?_)<;>(try simp only [w1,w3,hT,hTt,htl,nq,Nat.reduceBEq,Nat.reduceAdd,Nat.reduceSub]))
   iterate 1 (((with_reducible apply DW.k_any);refine DW.ST ?_)<;>(try simp only [w1,w3,hT,hTt,htl,e8,flat_eB,Nat.min_self,nq,Nat.reduceBEq,Nat.reduceAdd,Nat.reduceSub]))
   generalize hC:cpy _ 2 _=C;obtain rfl:C=I ten :: .sl none 3 (l.map eGr) :: tagC T:=hC.symm.trans hct;clear hC;dsimp only [tagC]
   repeat' (first|((first|refine wA1 ?_|(refine GA ?_ ?_<;>intro hg)|(refine GV ?_;intros;simp only [nz])|refine wA6 ?_|refine wD1 ?_)<;>try refine NQ ?_)|refine wT6 ?_|with_reducible intro Q' hQ'|(refine GC ?_ ?_<;>intro hc)|simp only [laq])
   exact RA0
