/- Parts. -/
import Derived.Test.YtnjllcnjcpfbhaaGreatZS13
namespace Go.Proofs.YtnjllcnjcpfbhaaGreat
set_option linter.unusedVariables false
set_option linter.unusedSimpArgs false
open Go.RowKit Go.Proofs.Tryz
set_option maxRecDepth 100000
set_option maxHeartbeats 8000000
theorem wN11 {G G':Prop} (K:G') (h:G'->G:=by (intro kz;simp only [q0,q1,nq,Nat.reduceBEq,Nat.reduceAdd,Nat.reduceSub];exact kz)):G:=h K
structure St where
 pos:Int
 sh:List Shr
 tens:List Ten
 links:List Lnk
 lasts:List Las
abbrev tenA (l:List Ten):AV:=.sl none 6 (l.map eTe)
abbrev lnkA (l:List Lnk):AV:=.sl none 71 (l.map eLk)
abbrev eSt (s:St):List AV:=[I s.pos,shrA s.sh,tenA s.tens,lnkA s.links,lasA s.lasts]
structure St.small (s:St):Prop where
 q:s.sh.length<=1000000
 t:s.tens.length<=1000000
 l:s.lasts.length<=1000000
 s:∀ t∈s.tens,t.small
def ascT (sh:List Shr) (l:List Ten):Bool:=ascB Ten.num geI (tenS sh) none l
def maySt (s:St):Bool:=clkS s.pos && mayQ s.sh && mayL' s.lasts && (decide (s.tens.length=s.sh.length + 1) && ascT s.sh s.tens)
theorem stmay_ac (s:St) (hs:s.small):AF 9 [.ag (eSt s)] (B (maySt s)):=by
 have h1:=clock_ac s.pos;have h2:=qmay_ac s.sh hs.q;have h3:=lmay_ac s.lasts hs.l
 cases hA:clkS s.pos with
 | false=>
  rw [hA] at h1;rw [show maySt s=false from may_of (.inl hA)];refine AC.E func9 ntmps9 ?_;intros;iterate 2 refine CP.SL ?_
  repeat' (first|((first|refine wA1 ?_|(refine GA ?_ ?_<;>intro hg)|(refine GV ?_;intros;simp only [nz])|refine wA6 ?_|refine wD1 ?_)<;>try refine NQ ?_)|refine wT6 ?_|with_reducible intro Q' hQ'|(refine GC ?_ ?_<;>intro hc)|simp only [laq])
  exact RA0
 | true=>
 rw [hA] at h1
 cases hB:mayQ s.sh with
 | false=>
  rw [hB] at h2;rw [show maySt s=false from may_of (.inr (.inl hB))];refine AC.E func9 ntmps9 ?_;intros;iterate 2 refine CP.SL ?_
  repeat' (first|((first|refine wA1 ?_|(refine GA ?_ ?_<;>intro hg)|(refine GV ?_;intros;simp only [nz])|refine wA6 ?_|refine wD1 ?_)<;>try refine NQ ?_)|refine wT6 ?_|with_reducible intro Q' hQ'|(refine GC ?_ ?_<;>intro hc)|simp only [laq])
  exact RA0
 | true=>
 rw [hB] at h2
 cases hC:mayL' s.lasts with
 | false=>
  rw [hC] at h3;rw [show maySt s=false from may_of (.inr (.inr (.inl hC)))];refine AC.E func9 ntmps9 ?_;intros;iterate 2 refine CP.SL ?_
  repeat' (first|((first|refine wA1 ?_|(refine GA ?_ ?_<;>intro hg)|(refine GV ?_;intros;simp only [nz])|refine wA6 ?_|refine wD1 ?_)<;>try refine NQ ?_)|refine wT6 ?_|with_reducible intro Q' hQ'|(refine GC ?_ ?_<;>intro hc)|simp only [laq])
  exact RA0
 | true=>
 rw [hC] at h3;have q0:IntKind.i64.wrap ((s.sh.length:Int) + 1)=((s.sh.length + 1:Nat):Int):=by have:=hs.q;exact wrap_i64 (by omega) (by omega)
 by_cases hD:s.tens.length=s.sh.length + 1
 rotate_left
 ·have q1:((s.tens.length:Int) != ((s.sh.length + 1:Nat):Int))=true:=by rw [bne_iff_ne];omega
  rw [show maySt s=false from may_of (.inr (.inr (.inr (by rw [decide_eq_false hD];rfl))))];refine AC.E func9 ntmps9 ?_;intros;iterate 2 refine CP.SL ?_
  repeat' (first|((first|refine wA1 ?_|(refine GA ?_ ?_<;>intro hg)|(refine GV ?_;intros;simp only [nz])|refine wA6 ?_|refine wD1 ?_)<;>try refine wN11 ?_)|refine wT6 ?_|with_reducible intro Q' hQ'|(refine GC ?_ ?_<;>intro hc)|simp only [laq])
  exact RA0
 have q1:((s.tens.length:Int) != ((s.sh.length + 1:Nat):Int))=false:=by rw [hD];exact bne_self_eq_false _
 have hM:maySt s=ascB Ten.num geI (tenS s.sh) none s.tens:=by unfold maySt ascT;rw [hA,hB,hC,decide_eq_true hD];rfl
 have hsm:=hs.s;have hsq:=hs.q;have hst:=hs.t;clear hs;refine AC.E func9 ntmps9 ?_;intros;iterate 2 refine CP.SL ?_
 repeat' (first|((first|refine wA1 ?_|(refine GA ?_ ?_<;>intro hg)|(refine GV ?_;intros;simp only [nz])|refine wA6 ?_|refine wD1 ?_)<;>try refine wN11 ?_)|refine wT6 ?_|with_reducible intro Q' hQ'|(refine GC ?_ ?_<;>intro hc)|simp only [laq])
 clear h1 h2 h3;refine cp_loopS [2,3,4,34,35,36,37,38,39,40,41,42,43,44,45,46,47,48,49,50,51,52,53,54,55,56,57,58,59,60,61] (fun a:Nat=>s.tens.length - a) (fun a=>a<=s.tens.length/\maySt s=ascB Ten.num geI (tenS s.sh) (prv Ten.num s.tens a) (s.tens.drop a)) (fun a=>[(34,I a)]) (fun a=>[(1,⟨a,.x⟩)]) 0 ⟨Nat.zero_le _,hM⟩ (by exact Gh.W) ?_;rintro a ⟨ha,hinv⟩;refine ST0 ?_
 by_cases hlt:a < s.tens.length
 ·have q2:decide ((a:Int) < (s.tens.length:Int))=true:=by simp;omega
  have q3:IntKind.i64.wrap ((a:Int) + 1)=((a + 1:Nat):Int):=wrap_i64 (by omega) (by omega);have hr:(s.tens.map eTe)[a]? = some (eTe s.tens[a]):=by rw [List.getElem?_map,List.getElem?_eq_getElem hlt];rfl
  have h4:=tenant_ac s.sh hsq a s.tens[a] (hsm _ (List.getElem_mem hlt));have hpn:=prv_none Ten.num ha
  cases hp:tenS s.sh (decide (a=0)) s.tens[a] with
  | false=>
   have hb:=ascB_bad (key:=Ten.num) (lt:=geI) (ok:=tenS s.sh) hlt (by rw [hpn,hp];rfl);rw [hinv,hb];rw [hp] at h4;generalize s.tens[a]=p at *
   repeat' (first|((first|refine wA1 ?_|(refine GA ?_ ?_<;>intro hg)|(refine GV ?_;intros;simp only [nz])|refine wA6 ?_|refine wD1 ?_)<;>try refine wN4 ?_)|refine wT7 ?_|with_reducible intro Q' hQ'|(refine GC ?_ ?_<;>intro hc)|simp only [laq])
   exact RA0
  | true=>
  rw [hp] at h4;rcases Nat.eq_zero_or_pos a with rfl|hpos
  ·have hg:=ascB_go (key:=Ten.num) (lt:=geI) (ok:=tenS s.sh) hlt (by rw [hpn,hp];rfl);have q4:decide ((0:Int) < ((0:Nat):Int))=false:=rfl;generalize s.tens[0]=p at *
   repeat' (first|((first|refine wA1 ?_|(refine GA ?_ ?_<;>intro hg)|(refine GV ?_;intros;simp only [nz])|refine wA6 ?_|refine wD1 ?_)<;>try refine wN10 ?_)|refine wT7 ?_|with_reducible intro Q' hQ'|(refine GC ?_ ?_<;>intro hc)|simp only [laq])
   exact ⟨1,by omega,⟨by omega,hinv.trans hg⟩,by exact Gh.W⟩
  ·have q4:decide ((0:Int) < (a:Int))=true:=by simp;omega
   have q5:IntKind.i64.wrap ((a:Int) - 1)=((a - 1:Nat):Int):=by rw [wrap_i64 (by omega) (by omega)];omega
   have hr2:(s.tens.map eTe)[a - 1]? = some (eTe (s.tens[a - 1]'(by omega))):=by rw [List.getElem?_map,List.getElem?_eq_getElem (by omega)];rfl
   have hpv:prv Ten.num s.tens a=some (Ten.num (s.tens[a - 1]'(by omega))):=by
    obtain ⟨b,rfl⟩:∃ b,a=b + 1:=⟨a - 1,by omega⟩
    show (s.tens[b]?).map Ten.num=_
    rw [List.getElem?_eq_getElem (by omega)];rfl
   cases hq:geI (Ten.num (s.tens[a - 1]'(by omega))) (Ten.num s.tens[a]) with
   | false=>
    have hb:=ascB_bad (key:=Ten.num) (lt:=geI) (ok:=tenS s.sh) hlt (by rw [hpn,hp,hpv];exact hq);rw [hinv,hb];generalize s.tens[a]=p at *;generalize s.tens[a - 1]'(by omega)=p0 at *;have hq2:decide (p.num<=p0.num)=true:=by simpa [geI] using hq
    repeat' (first|((first|refine wA1 ?_|(refine GA ?_ ?_<;>intro hg)|(refine GV ?_;intros;simp only [nz])|refine wA6 ?_|refine wD1 ?_)<;>try refine wN6 ?_)|refine wT7 ?_|with_reducible intro Q' hQ'|(refine GC ?_ ?_<;>intro hc)|simp only [laq])
    exact RA0
   | true=>
    have hg:=ascB_go (key:=Ten.num) (lt:=geI) (ok:=tenS s.sh) hlt (by rw [hpn,hp,hpv];exact hq);generalize s.tens[a]=p at *;generalize s.tens[a - 1]'(by omega)=p0 at *;have hq2:decide (p.num<=p0.num)=false:=by simpa [geI] using hq
    repeat' (first|((first|refine wA1 ?_|(refine GA ?_ ?_<;>intro hg)|(refine GV ?_;intros;simp only [nz])|refine wA6 ?_|refine wD1 ?_)<;>try refine wN6 ?_)|refine wT7 ?_|with_reducible intro Q' hQ'|(refine GC ?_ ?_<;>intro hc)|simp only [laq])
    exact ⟨a + 1,by omega,⟨by omega,hinv.trans hg⟩,by exact Gh.W⟩
 ·obtain rfl:a=s.tens.length:=by omega
  have q2:decide ((s.tens.length:Int) < (s.tens.length:Int))=false:=by simp
  rw [hinv,ascB_end]
  repeat' (first|((first|refine wA1 ?_|(refine GA ?_ ?_<;>intro hg)|(refine GV ?_;intros;simp only [nz])|refine wA6 ?_|refine wD1 ?_)<;>try refine wN9 ?_)|refine wT7 ?_|with_reducible intro Q' hQ'|(refine GC ?_ ?_<;>intro hc)|simp only [laq])
  exact RA0
theorem roP (l:List Pr):roE (l.map ePr)=l.map ePr:=by rw [roE_map];exact List.map_congr_left fun x _=>rfl
theorem roI (l:List Int):roE (l.map eI)=l.map eI:=by rw [roE_map];exact List.map_congr_left fun x _=>rfl
theorem roT (l:List (List UInt8)):roE (l.map eT)=l.map eT:=by rw [roE_map];exact List.map_congr_left fun x _=>rfl
