/- Parts. -/
import Derived.Test.YtnjllcnjcpfbhaaGreatZS20
import Derived.Test.YtnjllcnjcpfbhaaGreatZS23
namespace Go.Proofs.YtnjllcnjcpfbhaaGreat
set_option linter.unusedVariables false
set_option linter.unusedSimpArgs false
open Go.RowKit Go.Proofs.Tryz
set_option maxRecDepth 100000
set_option maxHeartbeats 8000000
section
variable {s:AS} {ops:Array Oper} {all:List Oper} {K:AS->Prop} {acc:List Fp} {l:List Oper} {av:AV} {op:Op} {ty:Nat} {pos:String} {aft:Array Edge} {g:Option (Nat×Bool)} {d:Nat} {T:List Nat} {F:List Nat} {b2:List Sl} {r:Bool}
theorem DW.WB (hk:DW prog ops all K (⟨T,some d,F,true⟩ :: acc) l ⟨s.t.set d av,b2⟩) (hg:gdS ops s g=some r:=by exact rfl) (hT:opTs ops ⟨some d,op,ty,pos,aft,g⟩=T:=by (simp only [ft,nm,Nat.reduceAdd,Nat.reduceBEq,List.getElem?_cons_zero,List.getElem?_cons_succ];exact rfl)) (hF:ftF 1 s op=F:=by (simp only [ft,nm,Nat.reduceAdd,Nat.reduceBEq,List.getElem?_cons_zero,List.getElem?_cons_succ];exact rfl)) (h:∀ X V,AP prog X ops (fun e s'=>e=.normal/\s'.t=(msT T 0 s.t).set d av/\Mg F V 0 s.b s'.b b2) [⟨some d,op,ty,pos,aft,g⟩] ⟨msT T 0 s.t,msB F V 0 s.b⟩:=by (intro X V;simp only [ft,nm,Nat.reduceAdd,Nat.reduceBEq];(try (refine AP.Y ?_;dsimp only));(refine AP.B1 ?_);(try refine NX ?_);refine AP.nil ?_;(first|refine ⟨trivial,rfl,?_⟩|refine ⟨rfl,rfl,?_⟩);(repeat' (first|exact Mg.nil|apply Mg.keep rfl|apply Mg.take rfl));all_goals fail))
 (hb:(∃ V:Nat->Nat,∃ b1,Mg F V 0 s.b b1 b2):=by (refine Exists.intro (fun _=>0) ?_;apply Exists.intro;(repeat' (first|exact Mg.nil|apply Mg.keep rfl|apply Mg.take rfl));all_goals fail)) (hy:nyF F 0 s.b=true:=by exact rfl) (hy2:nyF F 0 b2=true:=by exact rfl):DW prog ops all K acc (⟨some d,op,ty,pos,aft,g⟩ :: l) s:=DW.st 1 hT hF h hb hk hy hy2
end
def noteL (l:List Las) (c i:Int) (r:Rep):List Las×Int:=if (mayL' l && fitL c i)=false then ([],2) else if i<=ofL l c then ([],140) else (insL (fun y:Las=>decide (c < y.client)) ⟨c,i,r⟩ (l.filter fun y=>!(y.client == c)),0)
abbrev kpL (c:Int) (l:List Las) (j:Nat):List Las:=(l.take j).filter fun y=>!(y.client == c)
theorem roL (l:List Las):roE (l.map eLa)=l.map eLa:=by rw [roE_map];exact List.map_congr_left fun x _=>by simp only [roC,AV.ro,roT]
theorem wA20 {G G':Prop} (K:G') (h:G'->G:=by (intro kz;(with_reducible apply AP.k_any);first|exact AP.B1 kz|exact AP.ST kz|(refine AP.Y ?_;dsimp only;exact kz))):G:=h K
theorem lnoteO_ac (l:List Las) (hl:l.length<=100000) (hk:∀ x∈l,x.rep.keys.length<=1000000) (c i:Int) (r:Rep) (hr:r.keys.length<=1000000):AF 54 [lasA l,I c,I i,.ag (eRp r)] (.tu [.sl (some tLa) 77 ((noteL l c i r).1.map eLa),I (noteL l c i r).2]):=by
 have h1:=lmay_ac l (by omega);have h2:=pfits_ac c i;have h3:=lof_ac l (by omega) c
 cases hA:mayL' l with
 | false=>
  rw [hA] at h1;rw [show noteL l c i r=([],2) from if_pos (by rw [hA];rfl)];refine AC.E func54 ntmps54 ?_;intro X hρ hmks;iterate 3 refine CP.SL ?_
  repeat' (first|((first|refine wA1 ?_|(refine GA ?_ ?_<;>intro hg)|(refine GV ?_;intros;simp only [nz])|refine wA6 ?_|refine wD1 ?_)<;>try refine NQ ?_)|refine wT6 ?_|with_reducible intro Q' hQ'|(refine GC ?_ ?_<;>intro hc)|simp only [laq])
  exact RA0
 | true=>
 rw [hA] at h1
 cases hB:fitL c i with
 | false=>
  rw [hB] at h2;rw [show noteL l c i r=([],2) from if_pos (by rw [hA,hB];rfl)];refine AC.E func54 ntmps54 ?_;intro X hρ hmks;iterate 3 refine CP.SL ?_
  repeat' (first|((first|refine wA1 ?_|(refine GA ?_ ?_<;>intro hg)|(refine GV ?_;intros;simp only [nz])|refine wA6 ?_|refine wD1 ?_)<;>try refine NQ ?_)|refine wT6 ?_|with_reducible intro Q' hQ'|(refine GC ?_ ?_<;>intro hc)|simp only [laq])
  exact RA0
 | true=>
 rw [hB] at h2
 by_cases hC:i<=ofL l c
 ·rw [show noteL l c i r=([],140) by unfold noteL;rw [hA,hB,if_neg (by simp),if_pos hC]];have q1:=decide_eq_true hC;generalize ofL l c=o at *;refine AC.E func54 ntmps54 ?_;intro X hρ hmks;iterate 3 refine CP.SL ?_
  repeat' (first|((first|refine wA1 ?_|(refine GA ?_ ?_<;>intro hg)|(refine GV ?_;intros;simp only [nz])|refine wA6 ?_|refine wD1 ?_)<;>try refine wN0 ?_)|refine wT6 ?_|with_reducible intro Q' hQ'|(refine GC ?_ ?_<;>intro hc)|simp only [laq])
  exact RA0
 have q1:=decide_eq_false hC;rw [show noteL l c i r=(insL (fun y:Las=>decide (c < y.client)) ⟨c,i,r⟩ (l.filter fun y=>!(y.client == c)),0) by unfold noteL;rw [hA,hB,if_neg (by simp),if_neg hC]];generalize ofL l c=o at *;refine AC.E func54 ntmps54 ?_;intro X hρ hmks;iterate 2 refine CP.SL ?_
 repeat' (first|((first|refine wA1 ?_|(refine GA ?_ ?_<;>intro hg)|(refine GV ?_;intros;simp only [nz])|refine wA6 ?_|refine wD1 ?_)<;>try refine wN0 ?_)|refine wT6 ?_|with_reducible intro Q' hQ'|(refine GC ?_ ?_<;>intro hc)|simp only [laq])
 clear h1 h2 h3;refine CP.gh (gh_nil (t:=10) (e:=tLa) (k:=77) rfl) ?_;refine NX ?_;iterate 2 refine CP.SL ?_
 refine cp_loopS [10,12,32,33,34,35,36,37,38,39,40,41,42,43,44,45,46,47,48] (fun a:Nat=>l.length - a) (fun a=>a<=l.length) (fun a=>[(32,I a),(10,.hd 2 ((kpL c l a).length + 1))]) (fun a=>[(2,⟨(kpL c l a).length + 1,.r tLa 77 ((kpL c l a).map eLa)⟩),(3,⟨a,.x⟩),(4,⟨(kpL c l a).length,.x⟩)]) 0 (Nat.zero_le _) (by exact Gh.W) ?_;intro a ha;refine ST0 ?_
 by_cases hlt:a < l.length
 ·have q2:decide ((a:Int) < (l.length:Int))=true:=by simp;omega
  have q3:IntKind.i64.wrap ((a:Int) + 1)=((a + 1:Nat):Int):=wrap_i64 (by omega) (by omega);have hr1:(l.map eLa)[a]? = some (eLa l[a]):=by rw [List.getElem?_map,List.getElem?_eq_getElem hlt];rfl
  have h5:=pcopied_ac l[a].rep (hk _ (List.getElem_mem hlt));have hkl:(kpL c l a).length<=a:=Nat.le_trans (List.length_filter_le ..) (by rw [List.length_take];omega)
  have hkn:kpL c l (a + 1)=kpL c l a ++ (if (l[a].client == c)=true then [] else [l[a]]):=by
   unfold kpL;rw [List.take_succ_eq_append_getElem hlt,List.filter_append]
   congr 1
   cases h:(l[a].client == c)<;>simp [h]
  cases hp:(l[a].client == c) with
  | true=>
   have q4:(l[a].client != c)=false:=by rw [bne,hp];rfl
   rw [hp,if_pos rfl,List.append_nil] at hkn;generalize l[a]=x at *
   repeat' (first|((first|refine wA1 ?_|(refine GA ?_ ?_<;>intro hg)|(refine GV ?_;intros;simp only [nz])|refine wA6 ?_|refine wD1 ?_)<;>try refine wN10 ?_)|refine wT7 ?_|with_reducible intro Q' hQ'|(refine GC ?_ ?_<;>intro hc)|simp only [laq])
   exact ⟨a + 1,by omega,by omega,by (simp only [hkn];exact Gh.W)⟩
  | false=>
   have q4:(l[a].client != c)=true:=by rw [bne,hp];rfl
   rw [hp,if_neg (by simp)] at hkn;have hl1:((kpL c l a).map eLa).length + 1<=1000000000:=by rw [List.length_map];omega
   have hl2:(kpL c l a).length + 1<=1000000000:=by omega
   have e3:(kpL c l (a + 1)).map eLa=(kpL c l a).map eLa ++ [eLa l[a]]:=by rw [hkn,List.map_append];rfl
   have e4:(kpL c l (a + 1)).length=(kpL c l a).length + 1:=by rw [hkn,List.length_append];rfl
   clear hkn;generalize l[a]=x at *
   repeat' (first|((first|refine wA20 ?_|(refine GA ?_ ?_<;>intro hg)|(refine GV ?_;intros;simp only [nz])|refine wA6 ?_|refine wD4 ?_|((with_reducible apply DW.k_any);refine DW.known rfl ?_;(with_reducible first|apply DW.sx 2);(iterate 2 (focus (simp only [ft,nm,Nat.reduceAdd,Nat.reduceBEq,List.getElem?_cons_zero,List.getElem?_cons_succ];exact rfl)));(focus (intro X V;simp only [ft,nm,Nat.reduceAdd,Nat.reduceBEq];(try (refine AP.Y ?_;dsimp only));(first|refine AP.B1 ?_|fail);(try refine NX ?_);refine AP.nil ?_;(first|refine ⟨trivial,rfl,?_⟩|refine ⟨rfl,rfl,?_⟩);(repeat' (first|exact Mg.nil|apply Mg.keep rfl|apply Mg.take rfl));done));(focus (refine Exists.intro (fun _=>0) ?_;apply Exists.intro;(repeat' (first|exact Mg.nil|apply Mg.keep rfl|apply Mg.take rfl));done));(iterate 2 (focus (exact rfl)))))<;>try refine wN10 ?_)|refine wT6 ?_|with_reducible intro Q' hQ'|(refine GC ?_ ?_<;>intro hc)|simp only [laq])
   refine ⟨a + 1,by omega,by omega,?_⟩;rw [e3,e4];exact Gh.W
 ·obtain rfl:a=l.length:=by omega
  have q2:decide ((l.length:Int) < (l.length:Int))=false:=by simp
  have hm:kpL c l l.length=l.filter fun y=>!(y.client == c):=by unfold kpL;rw [List.take_length]
  have hml:(l.filter fun y=>!(y.client == c)).length<=100000:=Nat.le_trans (List.length_filter_le ..) hl;simp only [hm];generalize l.filter (fun y=>!(y.client == c))=m at *;have h3:=lnidx_ac m (by omega) c;have h4:=lins_ac m (insI (fun y:Las=>decide (c < y.client)) m) ⟨c,i,r⟩ (insI_le _ _) hml;have h5:=pcopied_ac r hr;rw [show m.take (insI (fun y:Las=>decide (c < y.client)) m) ++ [(⟨c,i,r⟩:Las)] ++ m.drop (insI (fun y:Las=>decide (c < y.client)) m)=insL (fun y:Las=>decide (c < y.client)) ⟨c,i,r⟩ m from rfl] at h4;generalize insL (fun y:Las=>decide (c < y.client)) ⟨c,i,r⟩ m=M at *;unfold idxF at h3;unfold insI at h4
  cases hf:m.findIdx? (fun y:Las=>decide (c < y.client)) with
  | none=>
   rw [hf] at h3 h4;dsimp only at h3 h4;have q5:decide ((-1:Int) < 0)=true:=rfl
   repeat' (first|((first|refine wA1 ?_|(refine GA ?_ ?_<;>intro hg)|(refine GV ?_;intros;simp only [nz])|refine aC4 h3 ?_|refine wA6 ?_)<;>(try simp only [q2,q5,nq,Nat.reduceBEq,Nat.reduceAdd,Nat.reduceSub]))|refine wT8 ?_|with_reducible intro Q' hQ'|(refine GC ?_ ?_<;>intro hc)|simp only [laq])
   first|refine cp_drwX fun Q' hQ'=>?_|refine cp_drawX ?_
   iterate 7 refine DS0 ?_
   refine DW.WB ?_;refine NQ ?_;refine DW.A 0 ?_;refine NQ ?_
   repeat' (first|((first|refine wA1 ?_|(refine GA ?_ ?_<;>intro hg)|(refine GV ?_;intros;simp only [nz])|refine wA6 ?_|refine wD1 ?_)<;>try refine NQ ?_)|refine wT6 ?_|with_reducible intro Q' hQ'|(refine GC ?_ ?_<;>intro hc)|simp only [laq])
   exact RA0
  | some n=>
   rw [hf] at h3 h4;dsimp only at h3 h4;have q5:decide ((n:Int) < 0)=false:=by simp
   repeat' (first|((first|refine wA1 ?_|(refine GA ?_ ?_<;>intro hg)|(refine GV ?_;intros;simp only [nz])|refine aC4 h3 ?_|refine wA6 ?_)<;>(try simp only [q2,q5,nq,Nat.reduceBEq,Nat.reduceAdd,Nat.reduceSub]))|refine wT8 ?_|with_reducible intro Q' hQ'|(refine GC ?_ ?_<;>intro hc)|simp only [laq])
   first|refine cp_drwX fun Q' hQ'=>?_|refine cp_drawX ?_
   iterate 7 refine DS0 ?_
   refine DW.WB ?_;refine NQ ?_;refine DW.A 0 ?_;refine NQ ?_
   repeat' (first|((first|refine wA1 ?_|(refine GA ?_ ?_<;>intro hg)|(refine GV ?_;intros;simp only [nz])|refine wA6 ?_|refine wD1 ?_)<;>try refine NQ ?_)|refine wT6 ?_|with_reducible intro Q' hQ'|(refine GC ?_ ?_<;>intro hc)|simp only [laq])
   exact RA0
theorem lnote_ac (l:List Las) (hl:l.length<=100000) (hk:∀ x∈l,x.rep.keys.length<=1000000) (c i:Int) (r:Rep) (hr:r.keys.length<=1000000):AF 54 [lasA l,I c,I i,.ag (eRp r)] (.tu [lasA (noteL l c i r).1,I (noteL l c i r).2]):=(lnoteO_ac l hl hk c i r hr).ro (by simp only [AV.ro,roC,roL])
