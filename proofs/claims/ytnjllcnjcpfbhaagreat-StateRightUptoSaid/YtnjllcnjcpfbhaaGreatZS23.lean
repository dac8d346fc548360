/- Parts. -/
import Derived.Test.YtnjllcnjcpfbhaaGreatZS12
import Derived.Test.YtnjllcnjcpfbhaaGreatZS15
import Derived.Test.YtnjllcnjcpfbhaaGreatZS18
namespace Go.Proofs.YtnjllcnjcpfbhaaGreat
set_option linter.unusedVariables false
set_option linter.unusedSimpArgs false
open Go.RowKit Go.Proofs.Tryz
set_option maxRecDepth 100000
set_option maxHeartbeats 8000000
abbrev tSh:TypeId:=123
abbrev shB' (x:Shr):Bx:=.c tSh (eShr x)
abbrev sameT (x y:Shr):Bool:=y.ten == x.ten
theorem qput1_ac (x y:Shr):AC prog 233 [.ag (eShr y),.bp 0 0 0] [shB' x] (fun v bs'=>v=B (sameT x y)/\bs'=[shB' x]):=by
 refine AC.E func233 ntmps233 ?_;intros;refine CP.SL ?_
 repeat' (first|((first|refine wA1 ?_|(refine GA ?_ ?_<;>intro hg)|(refine GV ?_;intros;simp only [nz])|refine wA6 ?_)<;>try refine NQ ?_)|refine wT3 ?_|with_reducible intro Q' hQ'|(refine GC ?_ ?_<;>intro hc)|simp only [laq])
 exact RA1
theorem qput2_ac_c (x y:Shr):AC prog 234 [.ag (eShr y),.bp 0 0 0] [shB' x] (fun v bs'=>v=B (decide (x.ten < y.ten))/\bs'=[shB' x]):=by
 refine AC.E func234 ntmps234 ?_;intros;refine CP.SL ?_
 repeat' (first|((first|refine wA1 ?_|(refine GA ?_ ?_<;>intro hg)|(refine GV ?_;intros;simp only [nz])|refine wA6 ?_)<;>try refine NQ ?_)|refine wT3 ?_|with_reducible intro Q' hQ'|(refine GC ?_ ?_<;>intro hc)|simp only [laq])
 exact RA1
theorem qdidx_ac (l:List Shr) (hl:l.length<=1000000)(xx:Shr):AC prog 182 [.hd 0 0,.fn 233 [.bp 1 0 0]] [.r tSh 3 (l.map eShr),shB' xx] (fun v bs'=>v=I (idxF (sameT xx) l)/\bs'=[.r tSh 3 (l.map eShr),shB' xx]):=by
 refine AC.E func182 ntmps182 ?_;intros
 repeat' (first|((first|refine wA1 ?_|(refine GA ?_ ?_<;>intro hg)|(refine GV ?_;intros;simp only [nz])|refine wA6 ?_)<;>try refine NQ ?_)|refine wT3 ?_|with_reducible intro Q' hQ'|(refine GC ?_ ?_<;>intro hc)|simp only [laq])
 refine cp_loopS [4,5,8,9,10,11,12,13,14,15,16,17,18] (fun a:Nat=>l.length - a) (fun a=>a<=l.length/\∀ i x,i < a->l[i]? = some x->(sameT xx) x=false) (fun a=>[(8,I a)]) (fun _=>[]) 0 ⟨Nat.zero_le _,fun i x h=>absurd h (by omega)⟩ (by exact Gh.W) ?_;rintro a ⟨ha,hinv⟩;refine ST0 ?_
 by_cases hlt:a < l.length
 ·have q1:decide ((a:Int) < (l.length:Int))=true:=by simp;omega
  have q2:IntKind.i64.wrap ((a:Int) + 1)=((a + 1:Nat):Int):=wrap_i64 (by omega) (by omega);have hr:(l.map eShr)[a]? = some (eShr l[a]):=by rw [List.getElem?_map,List.getElem?_eq_getElem hlt];rfl
  have h1:=qput1_ac xx l[a]
  cases hp:(sameT xx) l[a] with
  | true=>
   rw [show idxF (sameT xx) l=(a:Int) from idxF_at hlt hp hinv]
   (try dsimp only at hp);rw [hp] at h1
   generalize l[a]=x at *
   repeat' (first|((first|refine wA1 ?_|(refine GA ?_ ?_<;>intro hg)|(refine GV ?_;intros;simp only [nz])|refine wA6 ?_)<;>try refine wN1 ?_)|refine wT3 ?_|with_reducible intro Q' hQ'|(refine GC ?_ ?_<;>intro hc)|simp only [laq])
   (exact RetQ.A [(0,0),(1,0)] (by exact ⟨rfl,rfl⟩))
  | false=>
   have hinv2:∀ i x,i < a + 1->l[i]? = some x->(sameT xx) x=false:=fun i x hi hx=>by
    by_cases hia:i=a
    ·subst hia;rw [List.getElem?_eq_getElem hlt] at hx;injection hx with hx;rw [←hx];exact hp
    ·exact hinv i x (by omega) hx
   (try dsimp only at hp);rw [hp] at h1
   generalize l[a]=x at *
   repeat' (first|((first|refine wA1 ?_|(refine GA ?_ ?_<;>intro hg)|(refine GV ?_;intros;simp only [nz])|refine wA6 ?_)<;>try refine wN1 ?_)|refine wT3 ?_|with_reducible intro Q' hQ'|(refine GC ?_ ?_<;>intro hc)|simp only [laq])
   exact ⟨a + 1,by omega,⟨by omega,hinv2⟩,by exact Gh.W⟩
 ·obtain rfl:a=l.length:=by omega
  have q1:decide ((l.length:Int) < (l.length:Int))=false:=by simp
  rw [show idxF (sameT xx) l = -1 from idxF_no fun x hx=>by obtain ⟨i,hi⟩:=List.mem_iff_getElem?.1 hx;exact hinv i x (List.getElem?_eq_some_iff.1 hi).1 hi]
  repeat' (first|((first|refine wA1 ?_|(refine GA ?_ ?_<;>intro hg)|(refine GV ?_;intros;simp only [nz])|refine wA6 ?_)<;>try refine wN0 ?_)|refine wT3 ?_|with_reducible intro Q' hQ'|(refine GC ?_ ?_<;>intro hc)|simp only [laq])
  (exact RetQ.A [(0,0),(1,0)] (by exact ⟨rfl,rfl⟩))
theorem qpidx_ac (l:List Shr) (hl:l.length<=1000000)(xx:Shr):AC prog 182 [.hd 0 0,.fn 234 [.bp 1 0 0]] [.r tSh 3 (l.map eShr),shB' xx] (fun v bs'=>v=I (idxF (fun y=>decide (xx.ten < y.ten)) l)/\bs'=[.r tSh 3 (l.map eShr),shB' xx]):=by
 refine AC.E func182 ntmps182 ?_;intros
 repeat' (first|((first|refine wA1 ?_|(refine GA ?_ ?_<;>intro hg)|(refine GV ?_;intros;simp only [nz])|refine wA6 ?_)<;>try refine NQ ?_)|refine wT3 ?_|with_reducible intro Q' hQ'|(refine GC ?_ ?_<;>intro hc)|simp only [laq])
 refine cp_loopS [4,5,8,9,10,11,12,13,14,15,16,17,18] (fun a:Nat=>l.length - a) (fun a=>a<=l.length/\∀ i x,i < a->l[i]? = some x->(fun y=>decide (xx.ten < y.ten)) x=false) (fun a=>[(8,I a)]) (fun _=>[]) 0 ⟨Nat.zero_le _,fun i x h=>absurd h (by omega)⟩ (by exact Gh.W) ?_;rintro a ⟨ha,hinv⟩;refine ST0 ?_
 by_cases hlt:a < l.length
 ·have q1:decide ((a:Int) < (l.length:Int))=true:=by simp;omega
  have q2:IntKind.i64.wrap ((a:Int) + 1)=((a + 1:Nat):Int):=wrap_i64 (by omega) (by omega);have hr:(l.map eShr)[a]? = some (eShr l[a]):=by rw [List.getElem?_map,List.getElem?_eq_getElem hlt];rfl
  have h1:=qput2_ac_c xx l[a]
  cases hp:(fun y=>decide (xx.ten < y.ten)) l[a] with
  | true=>
   rw [show idxF (fun y=>decide (xx.ten < y.ten)) l=(a:Int) from idxF_at hlt hp hinv]
   (try dsimp only at hp);rw [hp] at h1
   generalize l[a]=x at *
   repeat' (first|((first|refine wA1 ?_|(refine GA ?_ ?_<;>intro hg)|(refine GV ?_;intros;simp only [nz])|refine wA6 ?_)<;>try refine wN1 ?_)|refine wT3 ?_|with_reducible intro Q' hQ'|(refine GC ?_ ?_<;>intro hc)|simp only [laq])
   (exact RetQ.A [(0,0),(1,0)] (by exact ⟨rfl,rfl⟩))
  | false=>
   have hinv2:∀ i x,i < a + 1->l[i]? = some x->(fun y=>decide (xx.ten < y.ten)) x=false:=fun i x hi hx=>by
    by_cases hia:i=a
    ·subst hia;rw [List.getElem?_eq_getElem hlt] at hx;injection hx with hx;rw [←hx];exact hp
    ·exact hinv i x (by omega) hx
   (try dsimp only at hp);rw [hp] at h1
   generalize l[a]=x at *
   repeat' (first|((first|refine wA1 ?_|(refine GA ?_ ?_<;>intro hg)|(refine GV ?_;intros;simp only [nz])|refine wA6 ?_)<;>try refine wN1 ?_)|refine wT3 ?_|with_reducible intro Q' hQ'|(refine GC ?_ ?_<;>intro hc)|simp only [laq])
   exact ⟨a + 1,by omega,⟨by omega,hinv2⟩,by exact Gh.W⟩
 ·obtain rfl:a=l.length:=by omega
  have q1:decide ((l.length:Int) < (l.length:Int))=false:=by simp
  rw [show idxF (fun y=>decide (xx.ten < y.ten)) l = -1 from idxF_no fun x hx=>by obtain ⟨i,hi⟩:=List.mem_iff_getElem?.1 hx;exact hinv i x (List.getElem?_eq_some_iff.1 hi).1 hi]
  repeat' (first|((first|refine wA1 ?_|(refine GA ?_ ?_<;>intro hg)|(refine GV ?_;intros;simp only [nz])|refine wA6 ?_)<;>try refine wN0 ?_)|refine wT3 ?_|with_reducible intro Q' hQ'|(refine GC ?_ ?_<;>intro hc)|simp only [laq])
  (exact RetQ.A [(0,0),(1,0)] (by exact ⟨rfl,rfl⟩))
abbrev kp (x:Shr) (l:List Shr) (j:Nat):List Shr:=(l.take j).filter fun y=>!(sameT x y)
theorem aC5 {p G G':Prop} (c:p) (K:G') (h:p->G'->G:=by (intro c kz;(with_reducible apply AP.k_any);exact AP.CB [(1,1),(0,0)] 0 c kz)):G:=h c K
theorem wA18 {G G':Prop} (K:G') (h:G'->G:=by (intro kz;(with_reducible apply AP.k_any);exact AP.TK kz)):G:=h K
theorem wA19 {G G':Prop} (K:G') (h:G'->G:=by (intro kz;(with_reducible apply AP.k_any);exact AP.CW kz)):G:=h K
theorem qdel_ac (l:List Shr) (hl:l.length<=100000) (x:Shr):AC prog 232 [.sl (some tSh) 3 (l.map eShr),.fn 233 [.bp 0 0 0]] [shB' x] (fun v bs'=>v=.sl (some tSh) 3 ((l.filter fun y=>!(sameT x y)).map eShr)/\bs'=[shB' x]):=by
 have h1:=qdidx_ac l (by omega) x;rcases idxF_cases (sameT x) l with ⟨e,hn⟩|⟨n,y,e,hy,hp,hn⟩
 ·rw [e] at h1;have hf:l.filter (fun y=>!(sameT x y))=l:=List.filter_eq_self.2 fun y hy=>by rw [hn y hy];rfl
  rw [hf];have q0:((-1:Int) == -1)=true:=rfl;refine AC.E func232 ntmps232 ?_;intros
  repeat' (first|((first|refine aC5 h1 ?_|refine wA1 ?_|(refine GA ?_ ?_<;>intro hg)|(refine GV ?_;intros;simp only [nz]))<;>try refine wN5 ?_)|refine wT3 ?_|with_reducible intro Q' hQ'|(refine GC ?_ ?_<;>intro hc)|simp only [laq])
  exact RA1
 ·rw [e] at h1;have hnl:n < l.length:=(List.getElem?_eq_some_iff.1 hy).1;have hy2:l[n]=y:=(List.getElem?_eq_some_iff.1 hy).2;have q0:((n:Int) == -1)=false:=beq_eq_false_iff_ne.2 (by omega);have q00:IntKind.i64.wrap ((n:Int) + 1)=((n + 1:Nat):Int):=wrap_i64 (by omega) (by omega)
  have hk0:kp x l n=l.take n:=List.filter_eq_self.2 fun z hz=>by
   obtain ⟨i,hi⟩:=List.mem_iff_getElem?.1 hz;rw [List.getElem?_take] at hi;split at hi
   ·rename_i hlt;rw [hn i z hlt hi];rfl
   ·cases hi
  have hk1:kp x l (n + 1)=l.take n:=by
   unfold kp at hk0 ⊢;rw [List.take_succ_eq_append_getElem hnl,List.filter_append,hk0,hy2];simp [hp]
  have hk1l:(kp x l (n + 1)).length=n:=by rw [hk1,List.length_take];omega
  refine AC.E func232 ntmps232 ?_;intros;refine CP.SL ?_
  repeat' (first|((first|refine aC5 h1 ?_|refine wA1 ?_|(refine GA ?_ ?_<;>intro hg)|(refine GV ?_;intros;simp only [nz]))<;>(try simp only [q0,q00,nq,Nat.reduceBEq,Nat.reduceAdd,Nat.reduceSub]))|refine wT3 ?_|with_reducible intro Q' hQ'|(refine GC ?_ ?_<;>intro hc)|simp only [laq])
  refine cp_loopS [5,6,7,16,17,18,19,20,21,22,23,24,25,26,27,28,29,30,31,32,33,34,35] (fun a:Nat×List Shr=>l.length - a.1) (fun a=>n + 1<=a.1/\a.1<=l.length/\a.2.length=l.length/\a.2.take (kp x l a.1).length=kp x l a.1/\a.2.drop a.1=l.drop a.1/\(kp x l a.1).length < a.1) (fun a=>[(6,I a.1),(5,I ((kp x l a.1).length:Nat))]) (fun a=>[(1,⟨1,.r tSh 3 (a.2.map eShr)⟩),(2,⟨a.1 - (n + 1),.x⟩)]) (n + 1,l) ⟨by omega,by omega,rfl,by rw [hk1l,hk1],rfl,by rw [hk1l];omega⟩ (by (simp only [hk1l,Nat.sub_self];exact Gh.W)) ?_;rintro ⟨j,C⟩ ⟨hj1,hj2,hCl,hCt,hCd,hkj⟩;dsimp only at hj1 hj2 hCl hCt hCd hkj;refine ST0 ?_;have hCl2:(C.map eShr).length=l.length:=by rw [List.length_map,hCl]
  generalize hK:kp x l j=K at *
  by_cases hlt:j < l.length
  ·have q1:decide ((j:Int) < (l.length:Int))=true:=by simp;omega
   have q2:IntKind.i64.wrap ((j:Int) + 1)=((j + 1:Nat):Int):=wrap_i64 (by omega) (by omega);have q3:IntKind.i64.wrap ((K.length:Int) + 1)=((K.length + 1:Nat):Int):=wrap_i64 (by omega) (by omega)
   have hCj:C[j]? = some l[j]:=by
    have e1:(C.drop j)[0]? = (l.drop j)[0]?:=by rw [hCd]
    simpa [List.getElem?_drop,List.getElem?_eq_getElem hlt] using e1
   have hr:(C.map eShr)[j]? = some (eShr l[j]):=by rw [List.getElem?_map,hCj];rfl
   have hr2:(C.map eShr)[K.length]? = some (eShr (C[K.length]'(by omega))):=by rw [List.getElem?_map,List.getElem?_eq_getElem (by omega)];rfl
   have h2:=qput1_ac x l[j]
   have hkn:kp x l (j + 1)=K ++ (if sameT x l[j]=true then [] else [l[j]]):=by
    rw [←hK];unfold kp
    rw [List.take_succ_eq_append_getElem hlt,List.filter_append]
    congr 1
    cases h:sameT x l[j]<;>simp [h]
   have hver:j + 1 - (n + 1)=j - (n + 1) + 1:=by omega
   generalize C[K.length]'(by omega)=y0 at *;have hd2:∀ D:List Shr,D.drop j=l.drop j->D.drop (j + 1)=l.drop (j + 1):=fun D h=>by rw [←List.drop_drop,h,List.drop_drop]
   cases hs:sameT x l[j] with
   | true=>
    rw [hs,if_pos rfl,List.append_nil] at hkn;rw [hs] at h2;generalize l[j]=z at *
    repeat' (first|((first|refine wA1 ?_|(refine GA ?_ ?_<;>intro hg)|(refine GV ?_;intros;simp only [nz])|refine aC4 h2 ?_|refine wA6 ?_)<;>(try simp only [q1,q2,q3,hCl2,Bool.not_true,nq,Nat.reduceBEq,Nat.reduceAdd,Nat.reduceSub]))|refine wT3 ?_|with_reducible intro Q' hQ'|(refine GC ?_ ?_<;>intro hc)|simp only [laq])
    exact ⟨(j + 1,C),by (dsimp only;omega),⟨by (dsimp only;omega),by (dsimp only;omega),hCl,by (dsimp only;rw [hkn];exact hCt),hd2 C hCd,by (dsimp only;rw [hkn];omega)⟩,by (simp only [hkn,hver];exact Gh.W)⟩
   | false=>
    rw [hs,if_neg (by simp)] at hkn;rw [hs] at h2;have hset:(C.map eShr).set K.length (eShr l[j])=(C.set K.length l[j]).map eShr:=List.map_set.symm;generalize l[j]=z at *
    repeat' (first|((first|refine wA1 ?_|(refine GA ?_ ?_<;>intro hg)|(refine GV ?_;intros;simp only [nz])|refine aC4 h2 ?_|refine wA18 ?_|refine wA6 ?_)<;>(try simp only [q1,q2,q3,hCl2,hset,Bool.not_false,nq,Nat.reduceBEq,Nat.reduceAdd,Nat.reduceSub]))|refine wT3 ?_|with_reducible intro Q' hQ'|(refine GC ?_ ?_<;>intro hc)|simp only [laq])
    have hsl:(C.set K.length z).length=l.length:=by rw [List.length_set,hCl]
    have hst:(C.set K.length z).take (K ++ [z]).length=K ++ [z]:=by
     rw [List.length_append,List.length_singleton,List.take_set,List.take_succ_eq_append_getElem (by omega),hCt,List.set_append_right _ _ (Nat.le_refl _),Nat.sub_self];rfl
    have hsd:(C.set K.length z).drop (j + 1)=l.drop (j + 1):=hd2 _ (by rw [List.drop_set_of_lt (by omega),hCd]);exact ⟨(j + 1,C.set K.length z),by (dsimp only;omega),⟨by (dsimp only;omega),by (dsimp only;omega),hsl,by (dsimp only;rw [hkn];exact hst),hsd,by (dsimp only;rw [hkn];simp;omega)⟩,by (simp only [hkn,hver,List.length_append,List.length_cons,List.length_nil,Nat.zero_add];exact Gh.W)⟩
  ·obtain rfl:j=l.length:=by omega
   have q1:decide ((l.length:Int) < (l.length:Int))=false:=by simp
   have hKf:K=l.filter fun y=>!(sameT x y):=by rw [←hK];unfold kp;rw [List.take_length]
   have hi:K.length < (C.map eShr).length:=by omega
   have hcut:((C.take K.length).map eShr ++ List.replicate (l.length - K.length) [I 0,I 0,I 0]).take K.length=(l.filter fun y=>!(sameT x y)).map eShr:=by
    rw [List.take_left' (by rw [List.length_map,List.length_take];omega),hCt,hKf]
   have hle:K.length<=((C.take K.length).map eShr ++ List.replicate (l.length - K.length) [I 0,I 0,I 0]).length:=by rw [List.length_append,List.length_map,List.length_take,List.length_replicate];omega
   repeat' (first|((first|refine wA19 ?_|((with_reducible apply AP.k_any);refine ap_trunc rfl rfl rfl rfl rfl rfl rfl (.int rfl) hle ?_)|refine wA1 ?_|(refine GA ?_ ?_<;>intro hg)|(refine GV ?_;intros;simp only [nz])|refine wA6 ?_)<;>(try simp only [q1,hCl2,hcut,nq,Nat.reduceBEq,Nat.reduceAdd,Nat.reduceSub]))|refine wT3 ?_|with_reducible intro Q' hQ'|(refine GC ?_ ?_<;>intro hc)|simp only [laq])
   exact RA1
theorem roS (l:List Shr):roE (l.map eShr)=l.map eShr:=by rw [roE_map];exact List.map_congr_left fun x _=>rfl
def insI {α:Type} (p:α->Bool) (l:List α):Nat:=match l.findIdx? p with
 | some n=>n
 | none=>l.length
theorem insI_le {α:Type} (p:α->Bool) (l:List α):insI p l<=l.length:=by
 unfold insI;split
 ·rename_i n h;exact Nat.le_of_lt (List.findIdx?_eq_some_iff_getElem.1 h).1
 ·exact Nat.le_refl _
def insL {α:Type} (p:α->Bool) (x:α) (l:List α):List α:=l.take (insI p l) ++ [x] ++ l.drop (insI p l)
def putQ (l:List Shr) (x:Shr):List Shr×Int:=
 if fitQ (insL (fun y=>decide (x.ten < y.ten)) x (l.filter fun y=>!(sameT x y)))=true then (insL (fun y=>decide (x.ten < y.ten)) x (l.filter fun y=>!(sameT x y)),0) else ([],120)
theorem qcln_ac (a:List Shr) (ha:a.length<=100000000):AF 100 [.sl none 3 (a.map eShr)] (.sl (some tSh) 3 (a.map eShr)):=by
 refine AC.E func100 ntmps100 ?_;intros
 repeat' (first|((first|refine wA2 ?_|(refine GV ?_;intro c hnil;simp only [nz]))<;>try refine NX ?_)|refine wT2 ?_|with_reducible intro Q' hQ'|(refine GC ?_ ?_<;>intro hc)|simp only [laq])
 ·obtain rfl:a=[]:=by simpa using hnil hc
  exact RA0
 ·(refine RB1 ?_;(exact ⟨by simp,rfl⟩))
theorem insL_mem {α:Type} {p:α->Bool} {x y:α} {l:List α} (h:y∈insL p x l):y=x\/y∈l:=by
 unfold insL at h;rcases List.mem_append.1 h with h|h
 ·rcases List.mem_append.1 h with h|h
  ·exact .inr (List.mem_of_mem_take h)
  ·exact .inl (List.mem_singleton.1 h)
 ·exact .inr (List.mem_of_mem_drop h)
theorem insL_length {α:Type} {p:α->Bool} {x:α} {l:List α}:(insL p x l).length=l.length + 1:=by
 unfold insL;have:=insI_le p l;simp;omega
theorem qput_ac (l:List Shr) (x:Shr) (hl:l.length<=100000) (hs:∀ y∈l,shrS y=true) (hx:shrS x=true):AF 219 [shrA l,.ag (eShr x)] (.tu [shrA (putQ l x).1,I (putQ l x).2]):=by
 have h1:=qcln_ac l (by omega);have h2:=qdel_ac l hl x;unfold putQ;have hfl:(l.filter fun y=>!(sameT x y)).length<=100000:=Nat.le_trans (List.length_filter_le ..) hl;have hfs:∀ y∈l.filter fun y=>!(sameT x y),shrS y=true:=fun y hy=>hs y (List.mem_filter.1 hy).1
 generalize l.filter (fun y=>!(sameT x y))=m at *;have h3:=qpidx_ac m (by omega) x;have h4:=qins_ac m (insI (fun y=>decide (x.ten < y.ten)) m) x (insI_le _ _) hfl
 have h5:=fits_ac (insL (fun y=>decide (x.ten < y.ten)) x m) (by rw [insL_length];omega) fun y hy=>by
  rcases insL_mem hy with rfl|hy
  ·exact hx
  ·exact hfs y hy
 rw [show m.take (insI (fun y=>decide (x.ten < y.ten)) m) ++ [x] ++ m.drop (insI (fun y=>decide (x.ten < y.ten)) m)=insL (fun y=>decide (x.ten < y.ten)) x m from rfl] at h4;generalize hM:insL (fun y=>decide (x.ten < y.ten)) x m=M at *;clear hM;unfold idxF at h3;unfold insI at h4
 cases hf:m.findIdx? (fun y=>decide (x.ten < y.ten)) with
 | none=>
  rw [hf] at h3 h4;dsimp only at h3 h4;have q1:decide ((-1:Int) < 0)=true:=rfl
  cases hg:fitQ M <;>
   (rw [hg] at h5
    refine AC.E func219 ntmps219 ?_;intros;iterate 3 refine CP.SL ?_
    repeat' (first|((first|refine aC4 h2 ?_|refine aC4 h3 ?_|refine aC1 h1 ?_|refine aC1 h4 ?_|refine aC1 h5 ?_|refine wA1 ?_|(refine GA ?_ ?_<;>intro hg)|(refine GV ?_;intros;simp only [nz]))<;>try refine wN0 ?_)|refine wT3 ?_|with_reducible intro Q' hQ'|(refine GC ?_ ?_<;>intro hc)|simp only [laq])
    refine AP.gh (gh_fzS (b:=1) rfl) ?_;simp only [roS,nq,Nat.reduceBEq,Nat.reduceAdd,Nat.reduceSub]
    repeat' (first|((first|refine aC1 h5 ?_|refine wA1 ?_|(refine GA ?_ ?_<;>intro hg)|(refine GV ?_;intros;simp only [nz]))<;>try refine wN0 ?_)|refine wT3 ?_|with_reducible intro Q' hQ'|(refine GC ?_ ?_<;>intro hc)|simp only [laq])
    exact RA0)
 | some n=>
  rw [hf] at h3 h4;dsimp only at h3 h4;have q1:decide ((n:Int) < 0)=false:=by simp
  cases hg:fitQ M <;>
   (rw [hg] at h5
    refine AC.E func219 ntmps219 ?_;intros;iterate 3 refine CP.SL ?_
    repeat' (first|((first|refine aC4 h2 ?_|refine aC4 h3 ?_|refine aC1 h1 ?_|refine aC1 h4 ?_|refine aC1 h5 ?_|refine wA1 ?_|(refine GA ?_ ?_<;>intro hg)|(refine GV ?_;intros;simp only [nz]))<;>try refine wN0 ?_)|refine wT3 ?_|with_reducible intro Q' hQ'|(refine GC ?_ ?_<;>intro hc)|simp only [laq])
    refine AP.gh (gh_fzS (b:=1) rfl) ?_;simp only [roS,nq,Nat.reduceBEq,Nat.reduceAdd,Nat.reduceSub]
    repeat' (first|((first|refine aC1 h5 ?_|refine wA1 ?_|(refine GA ?_ ?_<;>intro hg)|(refine GV ?_;intros;simp only [nz]))<;>try refine wN0 ?_)|refine wT3 ?_|with_reducible intro Q' hQ'|(refine GC ?_ ?_<;>intro hc)|simp only [laq])
    exact RA0)
def resQ (l:List Shr) (x:Shr):List Shr×Int:=if (mayQ l && shrS x)=false then ([],2) else if 0<=idxF (fun y:Shr=>y.ten == x.ten) l then ([],161) else putQ l x
def rszQ (l:List Shr) (x:Shr):List Shr×Int:=if (mayQ l && shrS x)=false then ([],2) else if idxF (fun y:Shr=>y.ten == x.ten) l < 0 then ([],160) else putQ l x
theorem mayQ_all {l:List Shr} (h:mayQ l=true):(∀ x∈l,shrS x=true)/\l.length<=8:=by
 simp only [mayQ,ascQ,Bool.and_eq_true,decide_eq_true_eq] at h;exact ⟨asc_all h.1.2,h.1.1⟩
theorem qReserve_ac (l:List Shr) (x:Shr) (hl:l.length<=100000):AF 200 [shrA l,.ag (eShr x)] (.tu [shrA (resQ l x).1,I (resQ l x).2]):=by
 have h1:=qmay_ac l (by omega);have h2:=share_ac x;have h3:=qat_ac l (by omega) x.ten
 cases hA:mayQ l with
 | false=>
  rw [hA] at h1;rw [show resQ l x=([],2) from if_pos (by rw [hA];rfl)];refine AC.E func200 ntmps200 ?_;intros;iterate 3 refine CP.SL ?_
  repeat' (first|((first|refine wA1 ?_|(refine GA ?_ ?_<;>intro hg)|(refine GV ?_;intros;simp only [nz])|refine wA6 ?_)<;>try refine NQ ?_)|refine wT3 ?_|with_reducible intro Q' hQ'|(refine GC ?_ ?_<;>intro hc)|simp only [laq])
  exact RA0
 | true=>
 rw [hA] at h1
 cases hB:shrS x with
 | false=>
  rw [hB] at h2;rw [show resQ l x=([],2) from if_pos (by rw [hA,hB];rfl)];refine AC.E func200 ntmps200 ?_;intros;iterate 3 refine CP.SL ?_
  repeat' (first|((first|refine wA1 ?_|(refine GA ?_ ?_<;>intro hg)|(refine GV ?_;intros;simp only [nz])|refine wA6 ?_)<;>try refine NQ ?_)|refine wT3 ?_|with_reducible intro Q' hQ'|(refine GC ?_ ?_<;>intro hc)|simp only [laq])
  exact RA0
 | true=>
  rw [hB] at h2;have h4:=qput_ac l x hl (mayQ_all hA).1 hB;unfold resQ;rw [hA,hB,if_neg (by simp)];generalize idxF (fun y:Shr=>y.ten == x.ten) l=i at *
  by_cases hi:0<=i
  ·rw [if_pos hi];have q1:=decide_eq_true hi;refine AC.E func200 ntmps200 ?_;intros;iterate 3 refine CP.SL ?_
   repeat' (first|((first|refine wA1 ?_|(refine GA ?_ ?_<;>intro hg)|(refine GV ?_;intros;simp only [nz])|refine wA6 ?_)<;>try refine wN0 ?_)|refine wT3 ?_|with_reducible intro Q' hQ'|(refine GC ?_ ?_<;>intro hc)|simp only [laq])
   exact RA0
  ·rw [if_neg hi];have q1:=decide_eq_false hi;refine AC.E func200 ntmps200 ?_;intros;iterate 3 refine CP.SL ?_
   repeat' (first|((first|refine wA1 ?_|(refine GA ?_ ?_<;>intro hg)|(refine GV ?_;intros;simp only [nz])|refine wA6 ?_)<;>try refine wN0 ?_)|refine wT3 ?_|with_reducible intro Q' hQ'|(refine GC ?_ ?_<;>intro hc)|simp only [laq])
   exact RA0
theorem qResize_ac (l:List Shr) (x:Shr) (hl:l.length<=100000):AF 205 [shrA l,.ag (eShr x)] (.tu [shrA (rszQ l x).1,I (rszQ l x).2]):=by
 have h1:=qmay_ac l (by omega);have h2:=share_ac x;have h3:=qat_ac l (by omega) x.ten
 cases hA:mayQ l with
 | false=>
  rw [hA] at h1;rw [show rszQ l x=([],2) from if_pos (by rw [hA];rfl)];refine AC.E func205 ntmps205 ?_;intros;iterate 3 refine CP.SL ?_
  repeat' (first|((first|refine wA1 ?_|(refine GA ?_ ?_<;>intro hg)|(refine GV ?_;intros;simp only [nz])|refine wA6 ?_)<;>try refine NQ ?_)|refine wT3 ?_|with_reducible intro Q' hQ'|(refine GC ?_ ?_<;>intro hc)|simp only [laq])
  exact RA0
 | true=>
 rw [hA] at h1
 cases hB:shrS x with
 | false=>
  rw [hB] at h2;rw [show rszQ l x=([],2) from if_pos (by rw [hA,hB];rfl)];refine AC.E func205 ntmps205 ?_;intros;iterate 3 refine CP.SL ?_
  repeat' (first|((first|refine wA1 ?_|(refine GA ?_ ?_<;>intro hg)|(refine GV ?_;intros;simp only [nz])|refine wA6 ?_)<;>try refine NQ ?_)|refine wT3 ?_|with_reducible intro Q' hQ'|(refine GC ?_ ?_<;>intro hc)|simp only [laq])
  exact RA0
 | true=>
  rw [hB] at h2;have h4:=qput_ac l x hl (mayQ_all hA).1 hB;unfold rszQ;rw [hA,hB,if_neg (by simp)];generalize idxF (fun y:Shr=>y.ten == x.ten) l=i at *
  by_cases hi:i < 0
  ·rw [if_pos hi];have q1:=decide_eq_true hi;refine AC.E func205 ntmps205 ?_;intros;iterate 3 refine CP.SL ?_
   repeat' (first|((first|refine wA1 ?_|(refine GA ?_ ?_<;>intro hg)|(refine GV ?_;intros;simp only [nz])|refine wA6 ?_)<;>try refine wN0 ?_)|refine wT3 ?_|with_reducible intro Q' hQ'|(refine GC ?_ ?_<;>intro hc)|simp only [laq])
   exact RA0
  ·rw [if_neg hi];have q1:=decide_eq_false hi;refine AC.E func205 ntmps205 ?_;intros;iterate 3 refine CP.SL ?_
   repeat' (first|((first|refine wA1 ?_|(refine GA ?_ ?_<;>intro hg)|(refine GV ?_;intros;simp only [nz])|refine wA6 ?_)<;>try refine wN0 ?_)|refine wT3 ?_|with_reducible intro Q' hQ'|(refine GC ?_ ?_<;>intro hc)|simp only [laq])
   exact RA0
