/- Parts. -/
import Derived.Test.YtnjllcnjcpfbhaaGreatZS17
namespace Go.Proofs.YtnjllcnjcpfbhaaGreat
set_option linter.unusedVariables false
set_option linter.unusedSimpArgs false
open Go.RowKit Go.Proofs.Tryz
set_option maxRecDepth 100000
set_option maxHeartbeats 8000000
theorem wN28 {G G':Prop} (K:G') (h:G'->G:=by (intro kz;simp only [q1,q1',q2,List.length_cons,List.length_nil,Nat.zero_add,nq,Nat.reduceBEq,Nat.reduceAdd,Nat.reduceSub];exact kz)):G:=h K
theorem wN29 {G G':Prop} (K:G') (h:G'->G:=by (intro kz;simp only [q1,q1',q2,q3,List.length_cons,List.length_nil,Nat.zero_add,nq,Nat.reduceBEq,Nat.reduceAdd,Nat.reduceSub];exact kz)):G:=h K
theorem wN14 {G G':Prop} (K:G') (h:G'->G:=by (intro kz;simp only [q1,q1',q2,q3,q4,q5,q6,List.length_cons,List.length_nil,Nat.zero_add,nq,Nat.reduceBEq,Nat.reduceAdd,Nat.reduceSub];exact kz)):G:=h K
theorem wN3 {G G':Prop} (K:G') (h:G'->G:=by (intro kz;simp only [q4,nq,Nat.reduceBEq,Nat.reduceAdd,Nat.reduceSub];exact kz)):G:=h K
theorem wN30 {G G':Prop} (K:G') (h:G'->G:=by (intro kz;simp only [q1,q1',q2,q3,q4,q5,q6,Bool.not_false,List.length_cons,List.length_nil,Nat.zero_add,nq,Nat.reduceBEq,Nat.reduceAdd,Nat.reduceSub];exact kz)):G:=h K
theorem wN7 {G G':Prop} (K:G') (h:G'->G:=by (intro kz;simp only [roe_c,roe_n,hro,nq,Nat.reduceBEq,Nat.reduceAdd,Nat.reduceSub];exact kz)):G:=h K
theorem wN31 {G G':Prop} (K:G') (h:G'->G:=by (intro kz;simp only [sbs,List.foldl_cons,List.foldl_nil,nq,Nat.reduceBEq,Nat.reduceAdd,Nat.reduceSub];exact kz)):G:=h K
theorem wN15 {G G':Prop} (K:G') (h:G'->G:=by (intro kz;simp only [q6,nq,Nat.reduceBEq,Nat.reduceAdd,Nat.reduceSub];exact kz)):G:=h K
theorem wN2 {G G':Prop} (K:G') (h:G'->G:=by (intro kz;simp only [Nat.zero_add,nq,Nat.reduceBEq,Nat.reduceAdd,Nat.reduceSub];exact kz)):G:=h K
theorem wA15 {G G':Prop} (K:G') (h:G'->G:=by (intro kz;(with_reducible apply AP.k_any);exact AP.WD kz)):G:=h K
theorem wA16 {G G':Prop} (K:G') (h:G'->G:=by (intro kz;(with_reducible apply AP.k_any);exact AP.WS kz)):G:=h K
theorem wA17 {G G':Prop} (K:G') (h:G'->G:=by (intro kz;(with_reducible apply AP.k_any);first|exact AP.WS kz|exact AP.WV kz)):G:=h K
theorem qins_ac (l:List Shr) (i:Nat) (x:Shr) (hi:i<=l.length) (hl:l.length<=100000):AF 235 [.sl (some 123) 3 (l.map eShr),I i,.sl (some 123) 3 [eShr x]] (.sl (some 123) 3 ((l.take i ++ [x] ++ l.drop i).map eShr)):=by
 have hro:∀ x:Shr,roC (eShr x)=eShr x:=fun _=>rfl
 have q1:(((1:Nat):Int) == 0)=false:=rfl;have q1':((1:Int) == 0)=false:=rfl;have hm:(l.take i ++ [x] ++ l.drop i).map eShr=(l.map eShr).take i ++ [eShr x] ++ (l.map eShr).drop i:=by rw [List.map_append,List.map_append,List.map_take,List.map_drop];rfl
 by_cases hin:i=l.length
 ·subst hin;have q2:((l.length:Int) == (l.length:Int))=true:=by simp
  have hl1:(l.map eShr).length + 1<=1000000000:=by rw [List.length_map];omega
  have hl2:(l.map eShr).length + [eShr x].length<=1000000000:=by rw [List.length_map];simp;omega
  rw [hm,List.take_of_length_le (by rw [List.length_map];omega),List.drop_of_length_le (by rw [List.length_map];omega),List.append_nil];refine AC.E func235 ntmps235 ?_;intro X hρ hmks;refine CP.gh (gh_fzS (b:=1) rfl) ?_;refine wN7 ?_
  repeat' (first|((first|refine wA1 ?_|(refine GA ?_ ?_<;>intro hg)|(refine GV ?_;intros;simp only [nz])|refine wA15 ?_|refine wA6 ?_|refine wD4 ?_|((with_reducible apply DW.k_any);refine DW.known rfl ?_;(with_reducible first|apply DW.sx 2);(iterate 2 (focus (simp only [ft,nm,Nat.reduceAdd,Nat.reduceBEq,List.getElem?_cons_zero,List.getElem?_cons_succ];exact rfl)));(focus (intro X V;simp only [ft,nm,Nat.reduceAdd,Nat.reduceBEq];(try (refine AP.Y ?_;dsimp only));(first|refine AP.WD ?_|fail);(try refine NX ?_);refine AP.nil ?_;(first|refine ⟨trivial,rfl,?_⟩|refine ⟨rfl,rfl,?_⟩);(repeat' (first|exact Mg.nil|apply Mg.keep rfl|apply Mg.take rfl));done));(focus (refine Exists.intro (fun _=>0) ?_;apply Exists.intro;(repeat' (first|exact Mg.nil|apply Mg.keep rfl|apply Mg.take rfl));done));(iterate 2 (focus (exact rfl)))))<;>try refine wN28 ?_)|refine wT6 ?_|with_reducible intro Q' hQ'|(refine GC ?_ ?_<;>intro hc)|simp only [laq])
  exact RA0
 ·have hlt:i < l.length:=by omega
  have q2:((i:Int) == (l.length:Int))=false:=by rw [beq_eq_false_iff_ne];omega
  have q3:IntKind.i64.wrap ((l.length:Int) + ((1:Nat):Int))=((l.length + 1:Nat):Int):=wrap_i64 (by omega) (by omega);have q4:IntKind.i64.wrap ((i:Int) + ((1:Nat):Int))=((i + 1:Nat):Int):=wrap_i64 (by omega) (by omega);have q5:IntKind.i64.wrap (((l.length + 1:Nat):Int) - (i:Int))=((l.length + 1 - i:Nat):Int):=by rw [wrap_i64 (by omega) (by omega)];omega
  have hR:∀ r∈l.map eShr,r.length=3:=fun r hr=>by obtain ⟨y,_,rfl⟩:=List.mem_map.1 hr;rfl
  have hRl:(l.map eShr).length=l.length:=List.length_map ..;have hne:l.map eShr≠[]:=fun h=>by rw [h] at hRl;simp at hRl;omega
  have hnt:∀ c∈l.map eShr,ntC c=true:=fun r hr=>by obtain ⟨y,_,rfl⟩:=List.mem_map.1 hr;rfl
  have hleaf:∀ r∈l.map eShr,∀ x∈r,x.leaf=true/\x.isDe=false:=fun r hr=>by
   obtain ⟨y,_,rfl⟩:=List.mem_map.1 hr;have:(eShr y).all (fun a=>a.leaf && !a.isDe)=true:=rfl;intro a ha
   simpa using List.all_eq_true.1 this a ha
  have hleafx:∀ a∈eShr x,a.leaf=true/\a.isDe=false:=fun a ha=>by
   have:(eShr x).all (fun a=>a.leaf && !a.isDe)=true:=rfl
   simpa using List.all_eq_true.1 this a ha
  have hlx:(eShr x).length=3:=rfl;obtain ⟨f1,f2,f3⟩:=flat_take (i:=i) hR;have hdF:∀ a∈(l.map eShr).flatten,a.isDe=false:=fun a ha=>by obtain ⟨r,hr1,hr2⟩:=List.mem_flatten.1 ha;exact (hleaf r hr1 a hr2).2
  have hRr:∀ r∈(l.map eShr).take i ++ [eShr x] ++ (l.map eShr).drop i,r.length=3:=fun r hr=>by
   rcases List.mem_append.1 hr with hr|hr
   ·rcases List.mem_append.1 hr with hr|hr
    ·exact hR r (List.mem_of_mem_take hr)
    ·rw [List.mem_singleton.1 hr];rfl
   ·exact hR r (List.mem_of_mem_drop hr)
  have hleafr:∀ r∈(l.map eShr).take i ++ [eShr x] ++ (l.map eShr).drop i,∀ a∈r,a.leaf=true/\a.isDe=false:=fun r hr=>by
   rcases List.mem_append.1 hr with hr|hr
   ·rcases List.mem_append.1 hr with hr|hr
    ·exact hleaf r (List.mem_of_mem_take hr)
    ·rw [List.mem_singleton.1 hr];exact hleafx
   ·exact hleaf r (List.mem_of_mem_drop hr)
  rw [hm];refine AC.E func235 ntmps235 ?_;intro X hρ hmks
  repeat' (first|((first|refine wA1 ?_|(refine GA ?_ ?_<;>intro hg)|(refine GV ?_;intros;simp only [nz])|refine wA15 ?_|refine wA6 ?_|refine wD4 ?_|((with_reducible apply DW.k_any);refine DW.known rfl ?_;(with_reducible first|apply DW.sx 2);(iterate 2 (focus (simp only [ft,nm,Nat.reduceAdd,Nat.reduceBEq,List.getElem?_cons_zero,List.getElem?_cons_succ];exact rfl)));(focus (intro X V;simp only [ft,nm,Nat.reduceAdd,Nat.reduceBEq];(try (refine AP.Y ?_;dsimp only));(first|refine AP.WD ?_|fail);(try refine NX ?_);refine AP.nil ?_;(first|refine ⟨trivial,rfl,?_⟩|refine ⟨rfl,rfl,?_⟩);(repeat' (first|exact Mg.nil|apply Mg.keep rfl|apply Mg.take rfl));done));(focus (refine Exists.intro (fun _=>0) ?_;apply Exists.intro;(repeat' (first|exact Mg.nil|apply Mg.keep rfl|apply Mg.take rfl));done));(iterate 2 (focus (exact rfl)))))<;>try refine wN29 ?_)|refine wT6 ?_|with_reducible intro Q' hQ'|(refine GC ?_ ?_<;>intro hc)|simp only [laq])
  refine ap_boxW (j:=0) (u:=1) (e:=123) (k:=3) (rows:=l.map eShr) [0,29] rfl (by decide) rfl hne (by decide) hnt fun cap hcap hcm=>?_
  generalize hRR:l.map eShr=R at *;refine wN31 ?_;rw [hRl] at hcap ⊢
  by_cases hroom:cap < l.length + 1
  ·have q6:decide ((cap:Int) < ((l.length + 1:Nat):Int))=true:=decide_eq_true (by omega);refine AP.WP ?_;refine wN15 ?_
   repeat' (first|((first|refine wA1 ?_|(refine GA ?_ ?_<;>intro hg)|(refine GV ?_;intros;simp only [nz])|refine wA16 ?_|refine wA6 ?_)<;>try refine wN14 ?_)|refine wT8 ?_|with_reducible intro Q' hQ'|(refine GC ?_ ?_<;>intro hc)|simp only [laq])
   have hbl:(bxL 3 R cap).length=cap * 3:=by rw [List.length_append,List.length_replicate,f3,←Nat.add_mul];congr 1;omega
   have t1:(bxL 3 R cap).take (i * 3)=R.flatten.take (i * 3):=List.take_append_of_le_length (by rw [f3];omega);have hnd1:∀ a∈(bxL 3 R cap).take (i * 3),a.isDe=false:=fun a ha=>hdF a (by rw [t1] at ha;exact List.mem_of_mem_take ha)
   refine ap_growW rfl rfl rfl rfl rfl rfl rfl rfl rfl (by kernel_rfl) rfl rfl rfl (by omega) (by omega) (by omega) hnd1 (by omega) fun c2 hc2 hcm2=>?_
   refine NQ ?_;have hL1l:((bxL 3 R cap).take (i * 3) ++ List.replicate ((c2 - i) * 3) AV.de).length=c2 * 3:=by rw [List.length_append,List.length_replicate,List.length_take,hbl];omega
   generalize hL1:(bxL 3 R cap).take (i * 3) ++ List.replicate ((c2 - i) * 3) AV.de=L1 at *;generalize hL0:bxL 3 R cap=L0 at *;refine AP.gh (gh_fzS (b:=1) rfl) ?_;refine wN7 ?_
   repeat' (first|((first|refine wA1 ?_|(refine GA ?_ ?_<;>intro hg)|(refine GV ?_;intros;simp only [nz])|refine wA17 ?_|refine wA6 ?_)<;>try refine wN14 ?_)|refine wT8 ?_|with_reducible intro Q' hQ'|(refine GC ?_ ?_<;>intro hc)|simp only [laq])
   have e9:i + (l.length + 1 - i)=l.length + 1:=by omega
   rw [e9] at hc2 ⊢;have hfx:[eShr x].flatten=eShr x:=by rw [List.flatten_cons,List.flatten_nil,List.append_nil]
   rw [hfx];have hL2l:(cpy L1 (i * 3) (eShr x)).length=c2 * 3:=by rw [cpy_length (by omega),hL1l]
   generalize hL2:cpy L1 (i * 3) (eShr x)=L2 at *
   have hnd2:∀ a∈(L0.drop (i * 3)).take (min (l.length - i) (l.length + 1 - (i + 1)) * 3),a.isDe=false:=fun a ha=>hdF a (by
    rw [←hL0,List.drop_append_of_le_length (by omega)] at ha;rw [List.take_append_of_le_length (by rw [List.length_drop];omega)] at ha;exact List.mem_of_mem_drop (List.mem_of_mem_take ha))
   refine cp_drawX ?_;iterate 4 (((with_reducible apply DW.k_any);refine DW.ST ?_)<;>try refine wN3 ?_)
   refine DW.RW ?_;refine wN2 ?_;iterate 2 (((with_reducible apply DW.k_any);refine DW.ST ?_)<;>try refine wN3 ?_)
   refine DW.RW ?_;refine wN2 ?_;refine DW.WW ?_;refine wN2 ?_;have hin:=ins_new (k:=3) (n:=l.length) (i:=i) (c:=c2) (F:=R.flatten) (D:=List.replicate ((cap - R.length) * 3) AV.de) (r:=eShr x) (D2:=List.replicate ((c2 - i) * 3) AV.de) (by rw [f3,hRl]) rfl hlt (by simp) hc2;rw [show R.flatten ++ List.replicate ((cap - R.length) * 3) AV.de=L0 from hL0,hL1,hL2] at hin;rw [show min (l.length - i) (l.length + 1 - (i + 1))=l.length - i by omega];generalize cpy L2 ((i + 1) * 3) (List.take ((l.length - i) * 3) (List.drop (i * 3) L0))=L3 at *;refine DW.nl2 ?_;refine CP.gh (gh_unbox (t:=9) (j:=2) (u:=1) (k:=3) (n:=l.length + 1) (c:=c2) (rows:=R.take i ++ [eShr x] ++ R.drop i) rfl rfl hin.2 (by rw [List.flatten_append,List.flatten_append,hfx,f1,f2,hin.1]) (by simp;omega) hRr hleafr) ?_;refine NQ ?_
   repeat' (first|((first|refine wA1 ?_|(refine GA ?_ ?_<;>intro hg)|(refine GV ?_;intros;simp only [nz])|refine wA6 ?_|refine wD1 ?_)<;>try refine NQ ?_)|refine wT6 ?_|with_reducible intro Q' hQ'|(refine GC ?_ ?_<;>intro hc)|simp only [laq])
   (refine RB1 ?_;(exact ⟨by rw [←hRR,List.map_take,List.map_drop],rfl⟩))
  ·have hcap1:l.length + 1<=cap:=by omega
   have q6:decide ((cap:Int) < ((l.length + 1:Nat):Int))=false:=decide_eq_false (by omega);refine AP.WP ?_;refine wN15 ?_;have hbl:(bxL 3 R cap).length=cap * 3:=by rw [List.length_append,List.length_replicate,f3,←Nat.add_mul];congr 1;omega
   have hLne:bxL 3 R cap≠[]:=fun h=>by rw [h] at hbl;simp at hbl;omega
   have hin:=ins_old (k:=3) (n:=l.length) (i:=i) (c:=cap) (F:=R.flatten) (D:=List.replicate ((cap - R.length) * 3) AV.de) (r:=eShr x) (by rw [f3,hRl]) rfl hlt (by rw [List.length_replicate,hRl]) hcap1;rw [show R.flatten ++ List.replicate ((cap - R.length) * 3) AV.de=bxL 3 R cap from rfl] at hin
   have hnd2:∀ a∈((bxL 3 R cap).drop (i * 3)).take (min (l.length + 1 - i) (l.length + 1 - (i + 1)) * 3),a.isDe=false:=fun a ha=>hdF a (by
    rw [List.drop_append_of_le_length (by omega)] at ha;rw [List.take_append_of_le_length (by rw [List.length_drop];omega)] at ha;exact List.mem_of_mem_drop (List.mem_of_mem_take ha))
   generalize hL0:bxL 3 R cap=L0 at *;have hex:Extern.find Tryz.f243=some (Extern.SlicesOverlaps.overlaps #[30,30] #[4]):=by kernel_rfl
   repeat' (first|((first|refine wA1 ?_|(refine GA ?_ ?_<;>intro hg)|(refine GV ?_;intros;simp only [nz])|refine wA16 ?_|((with_reducible apply AP.k_any);refine ap_ovl rfl rfl rfl func243 rfl rfl (by kernel_rfl) hex rfl rfl (by decide) (List.cons_ne_nil _ _) rfl rfl hLne (by decide) rfl rfl rfl rfl ?_)|refine wA6 ?_)<;>try refine wN30 ?_)|refine wT8 ?_|with_reducible intro Q' hQ'|(refine GC ?_ ?_<;>intro hc)|simp only [laq])
   refine cp_drawX ?_;iterate 4 (((with_reducible apply DW.k_any);refine DW.ST ?_)<;>try refine wN3 ?_)
   refine DW.RW ?_;refine wN2 ?_;iterate 2 (((with_reducible apply DW.k_any);refine DW.ST ?_)<;>try refine wN3 ?_)
   refine DW.RW ?_;refine wN2 ?_;refine DW.WW ?_;refine wN2 ?_;refine DW.nl2 ?_;rw [show min (l.length + 1 - i) (l.length + 1 - (i + 1))=l.length - i by omega];have hL2l:(cpy L0 ((i + 1) * 3) (List.take ((l.length - i) * 3) (List.drop (i * 3) L0))).length=cap * 3:=by rw [cpy_length (by rw [List.length_take,List.length_drop,hbl];omega),hbl]
   generalize cpy L0 ((i + 1) * 3) (List.take ((l.length - i) * 3) (List.drop (i * 3) L0))=L2 at *;refine CP.gh (gh_fzS (b:=1) rfl) ?_;refine wN7 ?_;refine cp_regG fun Q' hQ'=>?_
   iterate 2 (refine AP.ST ?_;refine NQ ?_)
   refine AP.WS ?_;refine wN2 ?_;refine AP.ST ?_;refine NQ ?_;refine AP.WV ?_;refine NQ ?_;refine AP.nil (hQ' _ ?_);clear hQ' Q';have hfx:[eShr x].flatten=eShr x:=by rw [List.flatten_cons,List.flatten_nil,List.append_nil]
   rw [hfx];generalize cpy L2 (i * 3) (eShr x)=L3 at *;refine CP.gh (gh_unbox (t:=0) (j:=0) (u:=2) (k:=3) (n:=l.length + 1) (c:=cap) (rows:=R.take i ++ [eShr x] ++ R.drop i) rfl rfl hin.2 (by rw [List.flatten_append,List.flatten_append,hfx,f1,f2,hin.1]) (by simp;omega) hRr hleafr) ?_;refine NQ ?_
   repeat' (first|((first|refine wA1 ?_|(refine GA ?_ ?_<;>intro hg)|(refine GV ?_;intros;simp only [nz])|refine wA6 ?_|refine wD1 ?_)<;>try refine NQ ?_)|refine wT6 ?_|with_reducible intro Q' hQ'|(refine GC ?_ ?_<;>intro hc)|simp only [laq])
   (refine RB1 ?_;(exact ⟨by rw [←hRR,List.map_take,List.map_drop],rfl⟩))
theorem tins_ac (l:List Ten) (i:Nat) (x:Ten) (hi:i<=l.length) (hl:l.length<=100000):AF 203 [.sl (some 42) 6 (l.map eTe),I i,.sl (some 42) 6 [eTe x]] (.sl (some 42) 6 ((l.take i ++ [x] ++ l.drop i).map eTe)):=by
 have hro:∀ x:Ten,roC (eTe x)=eTe x:=fun _=>by simp only [roC,AV.ro,roP,roI]
 have q1:(((1:Nat):Int) == 0)=false:=rfl;have q1':((1:Int) == 0)=false:=rfl;have hm:(l.take i ++ [x] ++ l.drop i).map eTe=(l.map eTe).take i ++ [eTe x] ++ (l.map eTe).drop i:=by rw [List.map_append,List.map_append,List.map_take,List.map_drop];rfl
 by_cases hin:i=l.length
 ·subst hin;have q2:((l.length:Int) == (l.length:Int))=true:=by simp
  have hl1:(l.map eTe).length + 1<=1000000000:=by rw [List.length_map];omega
  have hl2:(l.map eTe).length + [eTe x].length<=1000000000:=by rw [List.length_map];simp;omega
  rw [hm,List.take_of_length_le (by rw [List.length_map];omega),List.drop_of_length_le (by rw [List.length_map];omega),List.append_nil];refine AC.E func203 ntmps203 ?_;intro X hρ hmks;refine CP.gh (gh_fzS (b:=1) rfl) ?_;refine wN7 ?_
  repeat' (first|((first|refine wA1 ?_|(refine GA ?_ ?_<;>intro hg)|(refine GV ?_;intros;simp only [nz])|refine wA15 ?_|refine wA6 ?_|refine wD4 ?_|((with_reducible apply DW.k_any);refine DW.known rfl ?_;(with_reducible first|apply DW.sx 2);(iterate 2 (focus (simp only [ft,nm,Nat.reduceAdd,Nat.reduceBEq,List.getElem?_cons_zero,List.getElem?_cons_succ];exact rfl)));(focus (intro X V;simp only [ft,nm,Nat.reduceAdd,Nat.reduceBEq];(try (refine AP.Y ?_;dsimp only));(first|refine AP.WD ?_|fail);(try refine NX ?_);refine AP.nil ?_;(first|refine ⟨trivial,rfl,?_⟩|refine ⟨rfl,rfl,?_⟩);(repeat' (first|exact Mg.nil|apply Mg.keep rfl|apply Mg.take rfl));done));(focus (refine Exists.intro (fun _=>0) ?_;apply Exists.intro;(repeat' (first|exact Mg.nil|apply Mg.keep rfl|apply Mg.take rfl));done));(iterate 2 (focus (exact rfl)))))<;>try refine wN28 ?_)|refine wT6 ?_|with_reducible intro Q' hQ'|(refine GC ?_ ?_<;>intro hc)|simp only [laq])
  exact RA0
 ·have hlt:i < l.length:=by omega
  have q2:((i:Int) == (l.length:Int))=false:=by rw [beq_eq_false_iff_ne];omega
  have q3:IntKind.i64.wrap ((l.length:Int) + ((1:Nat):Int))=((l.length + 1:Nat):Int):=wrap_i64 (by omega) (by omega);have q4:IntKind.i64.wrap ((i:Int) + ((1:Nat):Int))=((i + 1:Nat):Int):=wrap_i64 (by omega) (by omega);have q5:IntKind.i64.wrap (((l.length + 1:Nat):Int) - (i:Int))=((l.length + 1 - i:Nat):Int):=by rw [wrap_i64 (by omega) (by omega)];omega
  have hR:∀ r∈l.map eTe,r.length=6:=fun r hr=>by obtain ⟨y,_,rfl⟩:=List.mem_map.1 hr;rfl
  have hRl:(l.map eTe).length=l.length:=List.length_map ..;have hne:l.map eTe≠[]:=fun h=>by rw [h] at hRl;simp at hRl;omega
  have hnt:∀ c∈l.map eTe,ntC c=true:=fun r hr=>by obtain ⟨y,_,rfl⟩:=List.mem_map.1 hr;rfl
  have hleaf:∀ r∈l.map eTe,∀ x∈r,x.leaf=true/\x.isDe=false:=fun r hr=>by
   obtain ⟨y,_,rfl⟩:=List.mem_map.1 hr;have:(eTe y).all (fun a=>a.leaf && !a.isDe)=true:=rfl;intro a ha
   simpa using List.all_eq_true.1 this a ha
  have hleafx:∀ a∈eTe x,a.leaf=true/\a.isDe=false:=fun a ha=>by
   have:(eTe x).all (fun a=>a.leaf && !a.isDe)=true:=rfl
   simpa using List.all_eq_true.1 this a ha
  have hlx:(eTe x).length=6:=rfl;obtain ⟨f1,f2,f3⟩:=flat_take (i:=i) hR;have hdF:∀ a∈(l.map eTe).flatten,a.isDe=false:=fun a ha=>by obtain ⟨r,hr1,hr2⟩:=List.mem_flatten.1 ha;exact (hleaf r hr1 a hr2).2
  have hRr:∀ r∈(l.map eTe).take i ++ [eTe x] ++ (l.map eTe).drop i,r.length=6:=fun r hr=>by
   rcases List.mem_append.1 hr with hr|hr
   ·rcases List.mem_append.1 hr with hr|hr
    ·exact hR r (List.mem_of_mem_take hr)
    ·rw [List.mem_singleton.1 hr];rfl
   ·exact hR r (List.mem_of_mem_drop hr)
  have hleafr:∀ r∈(l.map eTe).take i ++ [eTe x] ++ (l.map eTe).drop i,∀ a∈r,a.leaf=true/\a.isDe=false:=fun r hr=>by
   rcases List.mem_append.1 hr with hr|hr
   ·rcases List.mem_append.1 hr with hr|hr
    ·exact hleaf r (List.mem_of_mem_take hr)
    ·rw [List.mem_singleton.1 hr];exact hleafx
   ·exact hleaf r (List.mem_of_mem_drop hr)
  rw [hm];refine AC.E func203 ntmps203 ?_;intro X hρ hmks
  repeat' (first|((first|refine wA1 ?_|(refine GA ?_ ?_<;>intro hg)|(refine GV ?_;intros;simp only [nz])|refine wA15 ?_|refine wA6 ?_|refine wD4 ?_|((with_reducible apply DW.k_any);refine DW.known rfl ?_;(with_reducible first|apply DW.sx 2);(iterate 2 (focus (simp only [ft,nm,Nat.reduceAdd,Nat.reduceBEq,List.getElem?_cons_zero,List.getElem?_cons_succ];exact rfl)));(focus (intro X V;simp only [ft,nm,Nat.reduceAdd,Nat.reduceBEq];(try (refine AP.Y ?_;dsimp only));(first|refine AP.WD ?_|fail);(try refine NX ?_);refine AP.nil ?_;(first|refine ⟨trivial,rfl,?_⟩|refine ⟨rfl,rfl,?_⟩);(repeat' (first|exact Mg.nil|apply Mg.keep rfl|apply Mg.take rfl));done));(focus (refine Exists.intro (fun _=>0) ?_;apply Exists.intro;(repeat' (first|exact Mg.nil|apply Mg.keep rfl|apply Mg.take rfl));done));(iterate 2 (focus (exact rfl)))))<;>try refine wN29 ?_)|refine wT6 ?_|with_reducible intro Q' hQ'|(refine GC ?_ ?_<;>intro hc)|simp only [laq])
  refine ap_boxW (j:=0) (u:=1) (e:=42) (k:=6) (rows:=l.map eTe) [0,29] rfl (by decide) rfl hne (by decide) hnt fun cap hcap hcm=>?_
  generalize hRR:l.map eTe=R at *;refine wN31 ?_;rw [hRl] at hcap ⊢
  by_cases hroom:cap < l.length + 1
  ·have q6:decide ((cap:Int) < ((l.length + 1:Nat):Int))=true:=decide_eq_true (by omega);refine AP.WP ?_;refine wN15 ?_
   repeat' (first|((first|refine wA1 ?_|(refine GA ?_ ?_<;>intro hg)|(refine GV ?_;intros;simp only [nz])|refine wA16 ?_|refine wA6 ?_)<;>try refine wN14 ?_)|refine wT8 ?_|with_reducible intro Q' hQ'|(refine GC ?_ ?_<;>intro hc)|simp only [laq])
   have hbl:(bxL 6 R cap).length=cap * 6:=by rw [List.length_append,List.length_replicate,f3,←Nat.add_mul];congr 1;omega
   have t1:(bxL 6 R cap).take (i * 6)=R.flatten.take (i * 6):=List.take_append_of_le_length (by rw [f3];omega);have hnd1:∀ a∈(bxL 6 R cap).take (i * 6),a.isDe=false:=fun a ha=>hdF a (by rw [t1] at ha;exact List.mem_of_mem_take ha)
   refine ap_growW rfl rfl rfl rfl rfl rfl rfl rfl rfl (by kernel_rfl) rfl rfl rfl (by omega) (by omega) (by omega) hnd1 (by omega) fun c2 hc2 hcm2=>?_
   refine NQ ?_;have hL1l:((bxL 6 R cap).take (i * 6) ++ List.replicate ((c2 - i) * 6) AV.de).length=c2 * 6:=by rw [List.length_append,List.length_replicate,List.length_take,hbl];omega
   generalize hL1:(bxL 6 R cap).take (i * 6) ++ List.replicate ((c2 - i) * 6) AV.de=L1 at *;generalize hL0:bxL 6 R cap=L0 at *;refine AP.gh (gh_fzS (b:=1) rfl) ?_;refine wN7 ?_
   repeat' (first|((first|refine wA1 ?_|(refine GA ?_ ?_<;>intro hg)|(refine GV ?_;intros;simp only [nz])|refine wA17 ?_|refine wA6 ?_)<;>try refine wN14 ?_)|refine wT8 ?_|with_reducible intro Q' hQ'|(refine GC ?_ ?_<;>intro hc)|simp only [laq])
   have e9:i + (l.length + 1 - i)=l.length + 1:=by omega
   rw [e9] at hc2 ⊢;have hfx:[eTe x].flatten=eTe x:=by rw [List.flatten_cons,List.flatten_nil,List.append_nil]
   rw [hfx];have hL2l:(cpy L1 (i * 6) (eTe x)).length=c2 * 6:=by rw [cpy_length (by omega),hL1l]
   generalize hL2:cpy L1 (i * 6) (eTe x)=L2 at *
   have hnd2:∀ a∈(L0.drop (i * 6)).take (min (l.length - i) (l.length + 1 - (i + 1)) * 6),a.isDe=false:=fun a ha=>hdF a (by
    rw [←hL0,List.drop_append_of_le_length (by omega)] at ha;rw [List.take_append_of_le_length (by rw [List.length_drop];omega)] at ha;exact List.mem_of_mem_drop (List.mem_of_mem_take ha))
   refine cp_drawX ?_;iterate 4 (((with_reducible apply DW.k_any);refine DW.ST ?_)<;>try refine wN3 ?_)
   refine DW.RW ?_;refine wN2 ?_;iterate 2 (((with_reducible apply DW.k_any);refine DW.ST ?_)<;>try refine wN3 ?_)
   refine DW.RW ?_;refine wN2 ?_;refine DW.WW ?_;refine wN2 ?_;have hin:=ins_new (k:=6) (n:=l.length) (i:=i) (c:=c2) (F:=R.flatten) (D:=List.replicate ((cap - R.length) * 6) AV.de) (r:=eTe x) (D2:=List.replicate ((c2 - i) * 6) AV.de) (by rw [f3,hRl]) rfl hlt (by simp) hc2;rw [show R.flatten ++ List.replicate ((cap - R.length) * 6) AV.de=L0 from hL0,hL1,hL2] at hin;rw [show min (l.length - i) (l.length + 1 - (i + 1))=l.length - i by omega];generalize cpy L2 ((i + 1) * 6) (List.take ((l.length - i) * 6) (List.drop (i * 6) L0))=L3 at *;refine DW.nl2 ?_;refine CP.gh (gh_unbox (t:=9) (j:=2) (u:=1) (k:=6) (n:=l.length + 1) (c:=c2) (rows:=R.take i ++ [eTe x] ++ R.drop i) rfl rfl hin.2 (by rw [List.flatten_append,List.flatten_append,hfx,f1,f2,hin.1]) (by simp;omega) hRr hleafr) ?_;refine NQ ?_
   repeat' (first|((first|refine wA1 ?_|(refine GA ?_ ?_<;>intro hg)|(refine GV ?_;intros;simp only [nz])|refine wA6 ?_|refine wD1 ?_)<;>try refine NQ ?_)|refine wT6 ?_|with_reducible intro Q' hQ'|(refine GC ?_ ?_<;>intro hc)|simp only [laq])
   (refine RB1 ?_;(exact ⟨by rw [←hRR,List.map_take,List.map_drop],rfl⟩))
  ·have hcap1:l.length + 1<=cap:=by omega
   have q6:decide ((cap:Int) < ((l.length + 1:Nat):Int))=false:=decide_eq_false (by omega);refine AP.WP ?_;refine wN15 ?_;have hbl:(bxL 6 R cap).length=cap * 6:=by rw [List.length_append,List.length_replicate,f3,←Nat.add_mul];congr 1;omega
   have hLne:bxL 6 R cap≠[]:=fun h=>by rw [h] at hbl;simp at hbl;omega
   have hin:=ins_old (k:=6) (n:=l.length) (i:=i) (c:=cap) (F:=R.flatten) (D:=List.replicate ((cap - R.length) * 6) AV.de) (r:=eTe x) (by rw [f3,hRl]) rfl hlt (by rw [List.length_replicate,hRl]) hcap1;rw [show R.flatten ++ List.replicate ((cap - R.length) * 6) AV.de=bxL 6 R cap from rfl] at hin
   have hnd2:∀ a∈((bxL 6 R cap).drop (i * 6)).take (min (l.length + 1 - i) (l.length + 1 - (i + 1)) * 6),a.isDe=false:=fun a ha=>hdF a (by
    rw [List.drop_append_of_le_length (by omega)] at ha;rw [List.take_append_of_le_length (by rw [List.length_drop];omega)] at ha;exact List.mem_of_mem_drop (List.mem_of_mem_take ha))
   generalize hL0:bxL 6 R cap=L0 at *;have hex:Extern.find Tryz.f220=some (Extern.SlicesOverlaps.overlaps #[31,31] #[4]):=by kernel_rfl
   repeat' (first|((first|refine wA1 ?_|(refine GA ?_ ?_<;>intro hg)|(refine GV ?_;intros;simp only [nz])|refine wA16 ?_|((with_reducible apply AP.k_any);refine ap_ovl rfl rfl rfl func220 rfl rfl (by kernel_rfl) hex rfl rfl (by decide) (List.cons_ne_nil _ _) rfl rfl hLne (by decide) rfl rfl rfl rfl ?_)|refine wA6 ?_)<;>try refine wN30 ?_)|refine wT8 ?_|with_reducible intro Q' hQ'|(refine GC ?_ ?_<;>intro hc)|simp only [laq])
   refine cp_drawX ?_;iterate 4 (((with_reducible apply DW.k_any);refine DW.ST ?_)<;>try refine wN3 ?_)
   refine DW.RW ?_;refine wN2 ?_;iterate 2 (((with_reducible apply DW.k_any);refine DW.ST ?_)<;>try refine wN3 ?_)
   refine DW.RW ?_;refine wN2 ?_;refine DW.WW ?_;refine wN2 ?_;refine DW.nl2 ?_;rw [show min (l.length + 1 - i) (l.length + 1 - (i + 1))=l.length - i by omega];have hL2l:(cpy L0 ((i + 1) * 6) (List.take ((l.length - i) * 6) (List.drop (i * 6) L0))).length=cap * 6:=by rw [cpy_length (by rw [List.length_take,List.length_drop,hbl];omega),hbl]
   generalize cpy L0 ((i + 1) * 6) (List.take ((l.length - i) * 6) (List.drop (i * 6) L0))=L2 at *;refine CP.gh (gh_fzS (b:=1) rfl) ?_;refine wN7 ?_;refine cp_regG fun Q' hQ'=>?_
   iterate 2 (refine AP.ST ?_;refine NQ ?_)
   refine AP.WS ?_;refine wN2 ?_;refine AP.ST ?_;refine NQ ?_;refine AP.WV ?_;refine NQ ?_;refine AP.nil (hQ' _ ?_);clear hQ' Q';have hfx:[eTe x].flatten=eTe x:=by rw [List.flatten_cons,List.flatten_nil,List.append_nil]
   rw [hfx];generalize cpy L2 (i * 6) (eTe x)=L3 at *;refine CP.gh (gh_unbox (t:=0) (j:=0) (u:=2) (k:=6) (n:=l.length + 1) (c:=cap) (rows:=R.take i ++ [eTe x] ++ R.drop i) rfl rfl hin.2 (by rw [List.flatten_append,List.flatten_append,hfx,f1,f2,hin.1]) (by simp;omega) hRr hleafr) ?_;refine NQ ?_
   repeat' (first|((first|refine wA1 ?_|(refine GA ?_ ?_<;>intro hg)|(refine GV ?_;intros;simp only [nz])|refine wA6 ?_|refine wD1 ?_)<;>try refine NQ ?_)|refine wT6 ?_|with_reducible intro Q' hQ'|(refine GC ?_ ?_<;>intro hc)|simp only [laq])
   (refine RB1 ?_;(exact ⟨by rw [←hRR,List.map_take,List.map_drop],rfl⟩))
theorem lins_ac (l:List Las) (i:Nat) (x:Las) (hi:i<=l.length) (hl:l.length<=100000):AF 115 [.sl (some 131) 77 (l.map eLa),I i,.sl (some 131) 77 [eLa x]] (.sl (some 131) 77 ((l.take i ++ [x] ++ l.drop i).map eLa)):=by
 have hro:∀ x:Las,roC (eLa x)=eLa x:=fun _=>by simp only [roC,AV.ro,roT]
 have q1:(((1:Nat):Int) == 0)=false:=rfl;have q1':((1:Int) == 0)=false:=rfl;have hm:(l.take i ++ [x] ++ l.drop i).map eLa=(l.map eLa).take i ++ [eLa x] ++ (l.map eLa).drop i:=by rw [List.map_append,List.map_append,List.map_take,List.map_drop];rfl
 by_cases hin:i=l.length
 ·subst hin;have q2:((l.length:Int) == (l.length:Int))=true:=by simp
  have hl1:(l.map eLa).length + 1<=1000000000:=by rw [List.length_map];omega
  have hl2:(l.map eLa).length + [eLa x].length<=1000000000:=by rw [List.length_map];simp;omega
  rw [hm,List.take_of_length_le (by rw [List.length_map];omega),List.drop_of_length_le (by rw [List.length_map];omega),List.append_nil];refine AC.E func115 ntmps115 ?_;intro X hρ hmks;refine CP.gh (gh_fzS (b:=1) rfl) ?_;refine wN7 ?_
  repeat' (first|((first|refine wA1 ?_|(refine GA ?_ ?_<;>intro hg)|(refine GV ?_;intros;simp only [nz])|refine wA15 ?_|refine wA6 ?_|refine wD4 ?_|((with_reducible apply DW.k_any);refine DW.known rfl ?_;(with_reducible first|apply DW.sx 2);(iterate 2 (focus (simp only [ft,nm,Nat.reduceAdd,Nat.reduceBEq,List.getElem?_cons_zero,List.getElem?_cons_succ];exact rfl)));(focus (intro X V;simp only [ft,nm,Nat.reduceAdd,Nat.reduceBEq];(try (refine AP.Y ?_;dsimp only));(first|refine AP.WD ?_|fail);(try refine NX ?_);refine AP.nil ?_;(first|refine ⟨trivial,rfl,?_⟩|refine ⟨rfl,rfl,?_⟩);(repeat' (first|exact Mg.nil|apply Mg.keep rfl|apply Mg.take rfl));done));(focus (refine Exists.intro (fun _=>0) ?_;apply Exists.intro;(repeat' (first|exact Mg.nil|apply Mg.keep rfl|apply Mg.take rfl));done));(iterate 2 (focus (exact rfl)))))<;>try refine wN28 ?_)|refine wT6 ?_|with_reducible intro Q' hQ'|(refine GC ?_ ?_<;>intro hc)|simp only [laq])
  exact RA0
 ·have hlt:i < l.length:=by omega
  have q2:((i:Int) == (l.length:Int))=false:=by rw [beq_eq_false_iff_ne];omega
  have q3:IntKind.i64.wrap ((l.length:Int) + ((1:Nat):Int))=((l.length + 1:Nat):Int):=wrap_i64 (by omega) (by omega);have q4:IntKind.i64.wrap ((i:Int) + ((1:Nat):Int))=((i + 1:Nat):Int):=wrap_i64 (by omega) (by omega);have q5:IntKind.i64.wrap (((l.length + 1:Nat):Int) - (i:Int))=((l.length + 1 - i:Nat):Int):=by rw [wrap_i64 (by omega) (by omega)];omega
  have hR:∀ r∈l.map eLa,r.length=77:=fun r hr=>by obtain ⟨y,_,rfl⟩:=List.mem_map.1 hr;rfl
  have hRl:(l.map eLa).length=l.length:=List.length_map ..;have hne:l.map eLa≠[]:=fun h=>by rw [h] at hRl;simp at hRl;omega
  have hnt:∀ c∈l.map eLa,ntC c=true:=fun r hr=>by obtain ⟨y,_,rfl⟩:=List.mem_map.1 hr;rfl
  have hleaf:∀ r∈l.map eLa,∀ x∈r,x.leaf=true/\x.isDe=false:=fun r hr=>by
   obtain ⟨y,_,rfl⟩:=List.mem_map.1 hr;have:(eLa y).all (fun a=>a.leaf && !a.isDe)=true:=rfl;intro a ha
   simpa using List.all_eq_true.1 this a ha
  have hleafx:∀ a∈eLa x,a.leaf=true/\a.isDe=false:=fun a ha=>by
   have:(eLa x).all (fun a=>a.leaf && !a.isDe)=true:=rfl
   simpa using List.all_eq_true.1 this a ha
  have hlx:(eLa x).length=77:=rfl;obtain ⟨f1,f2,f3⟩:=flat_take (i:=i) hR;have hdF:∀ a∈(l.map eLa).flatten,a.isDe=false:=fun a ha=>by obtain ⟨r,hr1,hr2⟩:=List.mem_flatten.1 ha;exact (hleaf r hr1 a hr2).2
  have hRr:∀ r∈(l.map eLa).take i ++ [eLa x] ++ (l.map eLa).drop i,r.length=77:=fun r hr=>by
   rcases List.mem_append.1 hr with hr|hr
   ·rcases List.mem_append.1 hr with hr|hr
    ·exact hR r (List.mem_of_mem_take hr)
    ·rw [List.mem_singleton.1 hr];rfl
   ·exact hR r (List.mem_of_mem_drop hr)
  have hleafr:∀ r∈(l.map eLa).take i ++ [eLa x] ++ (l.map eLa).drop i,∀ a∈r,a.leaf=true/\a.isDe=false:=fun r hr=>by
   rcases List.mem_append.1 hr with hr|hr
   ·rcases List.mem_append.1 hr with hr|hr
    ·exact hleaf r (List.mem_of_mem_take hr)
    ·rw [List.mem_singleton.1 hr];exact hleafx
   ·exact hleaf r (List.mem_of_mem_drop hr)
  rw [hm];refine AC.E func115 ntmps115 ?_;intro X hρ hmks
  repeat' (first|((first|refine wA1 ?_|(refine GA ?_ ?_<;>intro hg)|(refine GV ?_;intros;simp only [nz])|refine wA15 ?_|refine wA6 ?_|refine wD4 ?_|((with_reducible apply DW.k_any);refine DW.known rfl ?_;(with_reducible first|apply DW.sx 2);(iterate 2 (focus (simp only [ft,nm,Nat.reduceAdd,Nat.reduceBEq,List.getElem?_cons_zero,List.getElem?_cons_succ];exact rfl)));(focus (intro X V;simp only [ft,nm,Nat.reduceAdd,Nat.reduceBEq];(try (refine AP.Y ?_;dsimp only));(first|refine AP.WD ?_|fail);(try refine NX ?_);refine AP.nil ?_;(first|refine ⟨trivial,rfl,?_⟩|refine ⟨rfl,rfl,?_⟩);(repeat' (first|exact Mg.nil|apply Mg.keep rfl|apply Mg.take rfl));done));(focus (refine Exists.intro (fun _=>0) ?_;apply Exists.intro;(repeat' (first|exact Mg.nil|apply Mg.keep rfl|apply Mg.take rfl));done));(iterate 2 (focus (exact rfl)))))<;>try refine wN29 ?_)|refine wT6 ?_|with_reducible intro Q' hQ'|(refine GC ?_ ?_<;>intro hc)|simp only [laq])
  refine ap_boxW (j:=0) (u:=1) (e:=131) (k:=77) (rows:=l.map eLa) [0,29] rfl (by decide) rfl hne (by decide) hnt fun cap hcap hcm=>?_
  generalize hRR:l.map eLa=R at *;refine wN31 ?_;rw [hRl] at hcap ⊢
  by_cases hroom:cap < l.length + 1
  ·have q6:decide ((cap:Int) < ((l.length + 1:Nat):Int))=true:=decide_eq_true (by omega);refine AP.WP ?_;refine wN15 ?_
   repeat' (first|((first|refine wA1 ?_|(refine GA ?_ ?_<;>intro hg)|(refine GV ?_;intros;simp only [nz])|refine wA16 ?_|refine wA6 ?_)<;>try refine wN14 ?_)|refine wT8 ?_|with_reducible intro Q' hQ'|(refine GC ?_ ?_<;>intro hc)|simp only [laq])
   have hbl:(bxL 77 R cap).length=cap * 77:=by rw [List.length_append,List.length_replicate,f3,←Nat.add_mul];congr 1;omega
   have t1:(bxL 77 R cap).take (i * 77)=R.flatten.take (i * 77):=List.take_append_of_le_length (by rw [f3];omega);have hnd1:∀ a∈(bxL 77 R cap).take (i * 77),a.isDe=false:=fun a ha=>hdF a (by rw [t1] at ha;exact List.mem_of_mem_take ha)
   refine ap_growW rfl rfl rfl rfl rfl rfl rfl rfl rfl (by kernel_rfl) rfl rfl rfl (by omega) (by omega) (by omega) hnd1 (by omega) fun c2 hc2 hcm2=>?_
   refine NQ ?_;have hL1l:((bxL 77 R cap).take (i * 77) ++ List.replicate ((c2 - i) * 77) AV.de).length=c2 * 77:=by rw [List.length_append,List.length_replicate,List.length_take,hbl];omega
   generalize hL1:(bxL 77 R cap).take (i * 77) ++ List.replicate ((c2 - i) * 77) AV.de=L1 at *;generalize hL0:bxL 77 R cap=L0 at *;refine AP.gh (gh_fzS (b:=1) rfl) ?_;refine wN7 ?_
   repeat' (first|((first|refine wA1 ?_|(refine GA ?_ ?_<;>intro hg)|(refine GV ?_;intros;simp only [nz])|refine wA17 ?_|refine wA6 ?_)<;>try refine wN14 ?_)|refine wT8 ?_|with_reducible intro Q' hQ'|(refine GC ?_ ?_<;>intro hc)|simp only [laq])
   have e9:i + (l.length + 1 - i)=l.length + 1:=by omega
   rw [e9] at hc2 ⊢;have hfx:[eLa x].flatten=eLa x:=by rw [List.flatten_cons,List.flatten_nil,List.append_nil]
   rw [hfx];have hL2l:(cpy L1 (i * 77) (eLa x)).length=c2 * 77:=by rw [cpy_length (by omega),hL1l]
   generalize hL2:cpy L1 (i * 77) (eLa x)=L2 at *
   have hnd2:∀ a∈(L0.drop (i * 77)).take (min (l.length - i) (l.length + 1 - (i + 1)) * 77),a.isDe=false:=fun a ha=>hdF a (by
    rw [←hL0,List.drop_append_of_le_length (by omega)] at ha;rw [List.take_append_of_le_length (by rw [List.length_drop];omega)] at ha;exact List.mem_of_mem_drop (List.mem_of_mem_take ha))
   refine cp_drawX ?_;iterate 4 (((with_reducible apply DW.k_any);refine DW.ST ?_)<;>try refine wN3 ?_)
   refine DW.RW ?_;refine wN2 ?_;iterate 2 (((with_reducible apply DW.k_any);refine DW.ST ?_)<;>try refine wN3 ?_)
   refine DW.RW ?_;refine wN2 ?_;refine DW.WW ?_;refine wN2 ?_;have hin:=ins_new (k:=77) (n:=l.length) (i:=i) (c:=c2) (F:=R.flatten) (D:=List.replicate ((cap - R.length) * 77) AV.de) (r:=eLa x) (D2:=List.replicate ((c2 - i) * 77) AV.de) (by rw [f3,hRl]) rfl hlt (by simp) hc2;rw [show R.flatten ++ List.replicate ((cap - R.length) * 77) AV.de=L0 from hL0,hL1,hL2] at hin;rw [show min (l.length - i) (l.length + 1 - (i + 1))=l.length - i by omega];generalize cpy L2 ((i + 1) * 77) (List.take ((l.length - i) * 77) (List.drop (i * 77) L0))=L3 at *;refine DW.nl2 ?_;refine CP.gh (gh_unbox (t:=9) (j:=2) (u:=1) (k:=77) (n:=l.length + 1) (c:=c2) (rows:=R.take i ++ [eLa x] ++ R.drop i) rfl rfl hin.2 (by rw [List.flatten_append,List.flatten_append,hfx,f1,f2,hin.1]) (by simp;omega) hRr hleafr) ?_;refine NQ ?_
   repeat' (first|((first|refine wA1 ?_|(refine GA ?_ ?_<;>intro hg)|(refine GV ?_;intros;simp only [nz])|refine wA6 ?_|refine wD1 ?_)<;>try refine NQ ?_)|refine wT6 ?_|with_reducible intro Q' hQ'|(refine GC ?_ ?_<;>intro hc)|simp only [laq])
   (refine RB1 ?_;(exact ⟨by rw [←hRR,List.map_take,List.map_drop],rfl⟩))
  ·have hcap1:l.length + 1<=cap:=by omega
   have q6:decide ((cap:Int) < ((l.length + 1:Nat):Int))=false:=decide_eq_false (by omega);refine AP.WP ?_;refine wN15 ?_;have hbl:(bxL 77 R cap).length=cap * 77:=by rw [List.length_append,List.length_replicate,f3,←Nat.add_mul];congr 1;omega
   have hLne:bxL 77 R cap≠[]:=fun h=>by rw [h] at hbl;simp at hbl;omega
   have hin:=ins_old (k:=77) (n:=l.length) (i:=i) (c:=cap) (F:=R.flatten) (D:=List.replicate ((cap - R.length) * 77) AV.de) (r:=eLa x) (by rw [f3,hRl]) rfl hlt (by rw [List.length_replicate,hRl]) hcap1;rw [show R.flatten ++ List.replicate ((cap - R.length) * 77) AV.de=bxL 77 R cap from rfl] at hin
   have hnd2:∀ a∈((bxL 77 R cap).drop (i * 77)).take (min (l.length + 1 - i) (l.length + 1 - (i + 1)) * 77),a.isDe=false:=fun a ha=>hdF a (by
    rw [List.drop_append_of_le_length (by omega)] at ha;rw [List.take_append_of_le_length (by rw [List.length_drop];omega)] at ha;exact List.mem_of_mem_drop (List.mem_of_mem_take ha))
   generalize hL0:bxL 77 R cap=L0 at *;have hex:Extern.find Tryz.f177=some (Extern.SlicesOverlaps.overlaps #[33,33] #[4]):=by kernel_rfl
   repeat' (first|((first|refine wA1 ?_|(refine GA ?_ ?_<;>intro hg)|(refine GV ?_;intros;simp only [nz])|refine wA16 ?_|((with_reducible apply AP.k_any);refine ap_ovl rfl rfl rfl func177 rfl rfl (by kernel_rfl) hex rfl rfl (by decide) (List.cons_ne_nil _ _) rfl rfl hLne (by decide) rfl rfl rfl rfl ?_)|refine wA6 ?_)<;>try refine wN30 ?_)|refine wT8 ?_|with_reducible intro Q' hQ'|(refine GC ?_ ?_<;>intro hc)|simp only [laq])
   refine cp_drawX ?_;iterate 4 (((with_reducible apply DW.k_any);refine DW.ST ?_)<;>try refine wN3 ?_)
   refine DW.RW ?_;refine wN2 ?_;iterate 2 (((with_reducible apply DW.k_any);refine DW.ST ?_)<;>try refine wN3 ?_)
   refine DW.RW ?_;refine wN2 ?_;refine DW.WW ?_;refine wN2 ?_;refine DW.nl2 ?_;rw [show min (l.length + 1 - i) (l.length + 1 - (i + 1))=l.length - i by omega];have hL2l:(cpy L0 ((i + 1) * 77) (List.take ((l.length - i) * 77) (List.drop (i * 77) L0))).length=cap * 77:=by rw [cpy_length (by rw [List.length_take,List.length_drop,hbl];omega),hbl]
   generalize cpy L0 ((i + 1) * 77) (List.take ((l.length - i) * 77) (List.drop (i * 77) L0))=L2 at *;refine CP.gh (gh_fzS (b:=1) rfl) ?_;refine wN7 ?_;refine cp_regG fun Q' hQ'=>?_
   iterate 2 (refine AP.ST ?_;refine NQ ?_)
   refine AP.WS ?_;refine wN2 ?_;refine AP.ST ?_;refine NQ ?_;refine AP.WV ?_;refine NQ ?_;refine AP.nil (hQ' _ ?_);clear hQ' Q';have hfx:[eLa x].flatten=eLa x:=by rw [List.flatten_cons,List.flatten_nil,List.append_nil]
   rw [hfx];generalize cpy L2 (i * 77) (eLa x)=L3 at *;refine CP.gh (gh_unbox (t:=0) (j:=0) (u:=2) (k:=77) (n:=l.length + 1) (c:=cap) (rows:=R.take i ++ [eLa x] ++ R.drop i) rfl rfl hin.2 (by rw [List.flatten_append,List.flatten_append,hfx,f1,f2,hin.1]) (by simp;omega) hRr hleafr) ?_;refine NQ ?_
   repeat' (first|((first|refine wA1 ?_|(refine GA ?_ ?_<;>intro hg)|(refine GV ?_;intros;simp only [nz])|refine wA6 ?_|refine wD1 ?_)<;>try refine NQ ?_)|refine wT6 ?_|with_reducible intro Q' hQ'|(refine GC ?_ ?_<;>intro hc)|simp only [laq])
   (refine RB1 ?_;(exact ⟨by rw [←hRR,List.map_take,List.map_drop],rfl⟩))
