/-
  Texts joined: M7, M8, Ms4, Ms6, Ms7, Mu1, Tk, Mu2, Br, BrA, P1, R1, R2, P2, P3, P4, Ms8, Ms9, Mu3, Bp, Mu5, Mu4, Mu7, Mu8, Mu6.
-/
import Derived.Test.YtmgneincjfhaoaaGreatZT1
import Derived.Test.YtmgneincjfhaoaaGreatZT2
import Derived.Test.YtmgneincjfhaoaaGreatZT3
import Derived.Test.YtmgneincjfhaoaaGreatZT4
import Derived.Test.YtmgneincjfhaoaaGreatZT5
import Derived.Test.YtmgneincjfhaoaaGreatRows
import Derived.OpenShut
import Derived.Carry
import Derived.ChangeArms
import Derived.ChangeSame
import Derived.ChangeMaps5
import Derived.JoinedCond
import Derived.Deep.Slices
import Derived.Deep.CondSized
namespace Go.Proofs.YtmgneincjfhaoaaGreat
set_option linter.unusedVariables false
set_option linter.unusedSimpArgs false
set_option maxHeartbeats 8000000
open Go.RowKit
set_option maxRecDepth 100000
theorem etake4_ac (k:UInt8) (st:St) (hst:st.2.length≤100000000) :
    AC Tryz.prog 204 [.bp 0 0 0,.bp 1 0 0] [rB st,eZ k 0 0 nl 0 0 nl 0 0 0 nl 0] (fun v bs'=>v=.tu []∧bs'=[rB (takeEnt k st).2,.c tMsg (eG (takeEnt k st).1)]):=by
  have h1:=intR_len hst
  have h2:=intR_len h1
  have h3:=countR_len (m:=4) h2
  obtain ⟨hc0,hc5⟩:=countR_le (m:=4) (st:=(intR (intR st).2).2) (by omega)
  refine AC.N Tryz.func204 Tryz.ntmps204 ?_
  intro X hρ hmks
  refine NX ?_
  repeat' (first|((first|((with_reducible apply AP.k_any);first|refine AP.S ?_)|((with_reducible apply AP.k_any);refine AP.CB [(0,0)] 0 (rint_ac (intR st).2 h1) ?_)|((with_reducible apply AP.k_any);refine AP.CB [(0,0)] 0 (rint_ac st hst) ?_)|((with_reducible apply AP.k_any);refine AP.CB [(0,0)] 0 (rcount_ac 4 _ h2) ?_))<;>(try refine NX ?_))|(refine AP.N0 ?_;try clear hQ' Q')|((with_reducible apply CP.k_reg);refine cp_regG fun Q' hQ'=>?_)|refine CP.W ?_|refine cp_cond rfl (fun hc=>?_) (fun hc=>?_)|(simp only [List.append_eq,List.cons_append,List.nil_append]))
  refine CP.gh (gh_nilc (j:=1) (u:=0) (off:=6) (e:=tE) (k:=5) rfl rfl) ?_
  refine NX ?_
  refine CP.gh gh_slot ?_;refine NX ?_
  have h0:takeEnt k st=({ msg0 with kind:=k,upto:=(intR st).1,frm:=(intR (intR st).2).1,entries:=(entsR (intR (intR st).2).1 0 (countR 4 (intR (intR st).2).2).1.toNat (countR 4 (intR (intR st).2).2).2).1 },(entsR (intR (intR st).2).1 0 (countR 4 (intR (intR st).2).2).1.toNat (countR 4 (intR (intR st).2).2).2).2):=rfl
  rw [h0]
  clear h0
  obtain ⟨n,hN⟩:∃ n:Nat,(countR 4 (intR (intR st).2).2).1=n:=⟨(countR 4 (intR (intR st).2).2).1.toNat,by omega⟩
  rw [hN] at hc5 ⊢
  rw [Int.toNat_natCast]
  generalize (countR 4 (intR (intR st).2).2).2=S0 at h3 ⊢
  generalize (intR (intR st).2).1=p
  generalize (intR st).1=up
  refine cp_loopS [4,17,18,19,20,21,22,23,24,25,26,27,28,29,30,31,32,33,34,35,36,37] (fun a:Nat×Nat×Nat=>n - a.1) (fun a=>a.1≤n) (fun a=>[(17,I a.1)]) (fun a=>[(0,⟨0,rB (entsR p 0 a.1 S0).2⟩),(1,⟨0,eZ k 0 0 nl up p (.hd 2 a.2.1) 0 0 0 nl 0⟩),(2,⟨a.2.1,.r tE 5 ((entsR p 0 a.1 S0).1.map (eE none))⟩),(3,⟨a.2.2,.x⟩)]) (0,1,0) (Nat.zero_le _) (by exact Gh.W) ?_
  rintro ⟨i,u,v⟩ hk
  simp only [setT,deT,setB,List.set_cons_succ,List.set_cons_zero]
  dsimp only at hk
  have hS:=entsR_len (p:=p) (n:=i) (i:=0) h3
  have hL:=entsR_fst_len p i 0 S0
  have hs1:=(entsR_snoc p i 0 S0).1
  have hs2:=(entsR_snoc p i 0 S0).2
  rw [Nat.zero_add] at hs1 hs2
  by_cases hlt:i < n
  · have hw:IntKind.i64.wrap ((i:Int) + 1)=((i + 1:Nat):Int):=wrap_i64 (by omega) (by omega)
    generalize hms:entsR p 0 i S0=ms at hS hL hs1 hs2 ⊢
    obtain ⟨ml,S⟩:=ms
    dsimp only at hS hL hs1 hs2 ⊢
    have hlen:(ml.map (eE none)).length + 1≤1000000000:=by rw [List.length_map];omega
    repeat' (first|((first|((with_reducible apply AP.k_any);first|refine AP.S ?_)|((with_reducible apply AP.k_any);refine AP.CB [(0,0)] 0 (takeRest_ac _ _ hS) ?_)|((with_reducible apply DW.k_any);first|refine DW.R ?_|refine DW.R' ?_|refine DW.W ?_|refine DW.W' ?_|(refine DW.known rfl ?_;(with_reducible first|apply DW.sx 2|apply DW.sxN 2);(iterate 2 (focus (simp only [ft,nm,Nat.reduceAdd,Nat.reduceBEq,List.getElem?_cons_zero,List.getElem?_cons_succ];exact rfl)));(focus (intro X V;simp only [ft,nm,Nat.reduceAdd,Nat.reduceBEq];(try (refine AP.Y ?_;dsimp only));(first|((with_reducible apply AP.k_any);refine AP.CB [(0,0)] 0 (takeRest_ac _ _ hS) ?_)|fail);(try refine NX ?_);refine AP.nil ?_;(first|refine ⟨trivial,rfl,?_⟩|refine ⟨rfl,rfl,?_⟩);(repeat' (first|exact Mg.nil|apply Mg.keep rfl|apply Mg.take rfl));done));(focus (refine Exists.intro (fun _=>0) ?_;apply Exists.intro;(repeat' (first|exact Mg.nil|apply Mg.keep rfl|apply Mg.take rfl));done));(iterate 2 (focus (exact rfl))))|((fail_if_success refine DW.known rfl ?_);refine DW.G (fun hg=>?_) (fun hg=>?_))))<;>(try refine NX ?_))|(refine AP.N0 ?_;try clear hQ' Q')|((with_reducible apply CP.k_drw);refine cp_drwX fun Q' hQ'=>?_)|((with_reducible apply CP.k_drw1);refine cp_drawX ?_)|((with_reducible apply DW.k_nil);refine DW.nl ?_;first|(refine hQ' _ ?_;clear hQ' Q')|skip)|((with_reducible apply CP.k_reg);refine cp_regG fun Q' hQ'=>?_)|refine CP.W ?_|refine cp_cond rfl (fun hc=>?_) (fun hc=>?_)|(simp only [List.append_eq,List.cons_append,List.nil_append]))
    · simp only [hw]
      refine ⟨(i + 1,u + 1,v + 1),by (dsimp only;omega),by (dsimp only;omega),?_⟩
      dsimp only
      rw [hs1,hs2,List.map_append,List.map_cons,List.map_nil]
      exact Gh.W
    · exfalso;simp at *;omega
  · obtain rfl:i=n:=by omega
    refine CP.gh (gh_fz (b:=2) (u:=u) rfl rfl (by (repeat' (first|exact FzC.nil|apply FzC.cons|exact FzV.hd|apply FzV.ag|exact FzV.same))) (by (repeat' (first|exact FzB.nil|apply FzB.c|apply FzB.same|exact FzC.nil|apply FzC.cons|exact FzV.hd|apply FzV.ag|exact FzV.same)))) ?_
    simp only [ro_E]
    repeat' (first|((first|((with_reducible apply AP.k_any);first|refine AP.S ?_)|((with_reducible apply DW.k_any);first|refine DW.R ?_|refine DW.R' ?_|refine DW.W ?_|refine DW.W' ?_|(refine DW.known rfl ?_;(with_reducible first|apply DW.sx 2|apply DW.sxN 2);(iterate 2 (focus (simp only [ft,nm,Nat.reduceAdd,Nat.reduceBEq,List.getElem?_cons_zero,List.getElem?_cons_succ];exact rfl)));(focus (intro X V;simp only [ft,nm,Nat.reduceAdd,Nat.reduceBEq];(try (refine AP.Y ?_;dsimp only));(first|fail);(try refine NX ?_);refine AP.nil ?_;(first|refine ⟨trivial,rfl,?_⟩|refine ⟨rfl,rfl,?_⟩);(repeat' (first|exact Mg.nil|apply Mg.keep rfl|apply Mg.take rfl));done));(focus (refine Exists.intro (fun _=>0) ?_;apply Exists.intro;(repeat' (first|exact Mg.nil|apply Mg.keep rfl|apply Mg.take rfl));done));(iterate 2 (focus (exact rfl))))|((fail_if_success refine DW.known rfl ?_);refine DW.G (fun hg=>?_) (fun hg=>?_))))<;>(try refine NX ?_))|(refine AP.N0 ?_;try clear hQ' Q')|((with_reducible apply CP.k_drw);refine cp_drwX fun Q' hQ'=>?_)|((with_reducible apply CP.k_drw1);refine cp_drawX ?_)|((with_reducible apply DW.k_nil);refine DW.nl ?_;first|(refine hQ' _ ?_;clear hQ' Q')|skip)|((with_reducible apply CP.k_reg);refine cp_regG fun Q' hQ'=>?_)|refine CP.W ?_|refine cp_cond rfl (fun hc=>?_) (fun hc=>?_)|(simp only [List.append_eq,List.cons_append,List.nil_append]))
    all_goals first
      | (exfalso;simp at *;done)
      | (exfalso;simp at *;omega)
      | (exact RetQ.A [(0,0),(1,0)] (by exact ⟨rfl,rfl⟩))
end Go.Proofs.YtmgneincjfhaoaaGreat

namespace Go.Proofs.YtmgneincjfhaoaaGreat
set_option linter.unusedVariables false
set_option linter.unusedSimpArgs false
set_option maxHeartbeats 8000000
open Go.RowKit
set_option maxRecDepth 100000
def takeM (k:UInt8) (st:St):Msg×St:=match k.toNat with
  | 1=>takeAsk k st
  | 2=>takeEnt k st
  | 3=>takeHave k st
  | 4=>takeCfg k st
  | 5=>takeWhole k st
  | 6=>takeAsk k st
  | _=>(msg0,(40,[]))
def readM (b:List UInt8):Msg×St:=takeM (byteR (newR b)).1 (byteR (newR b)).2
def parseM (b:List UInt8):Msg×Int:=if endR (readM b).2=0∧mayM (readM b).1=true then ((readM b).1,0) else (msg0,200)
theorem newR_le {b:List UInt8} {k:Nat} (h:b.length≤k):(newR b).2.length≤k:=by
  unfold newR
  split
  · simp
  · exact h
theorem parseG_ac (f1 f2 f3 f4:Nat) (b:List UInt8) (hb:b.length≤100000000) (k:UInt8) (S S2:St) (m:Msg) (hr:byteR (newR b)=(k,S)) (hR:readM b=(m,S2))
    (hof:AC Tryz.prog 82 [.ag (eG { msg0 with kind:=k })] [] (fun v bs=>v=.tu [.ag [fnv f1,fnv f2,fnv f3,fnv f4],B true]∧bs=[]))
    (htk:AC Tryz.prog f4 [.bp 0 0 0,.bp 1 0 0] [rB S,eZ k 0 0 nl 0 0 nl 0 0 0 nl 0] (fun v bs'=>v=.tu []∧bs'=[rB S2,.c tMsg (eG m)]))
    (h1:m.entries.length≤100000000) (h2:m.cfg.members.length≤100000000) :
    AC Tryz.prog 46 [bs none b] [] (fun v bs'=>v=.tu [.ag (eG (parseM b).1),I (parseM b).2]∧bs'=[]):=by
  have hrb:=rbyte_ac (newR b) (newR_le hb)
  rw [hr] at hrb
  dsimp only at hrb
  have hend:=rend_ac S2
  have hm:=mayMsg_ac m h1 h2
  unfold parseM
  rw [hR]
  dsimp only
  generalize hms:mayM m=mm at hm ⊢
  generalize hee:endR S2=ee at hend ⊢
  by_cases hg:ee=0∧mm=true
  · obtain ⟨rfl,rfl⟩:=hg
    refine AC.N Tryz.func46 Tryz.ntmps46 ?_
    intro X hρ hmks
    refine NX ?_
    repeat' (first|((first|((with_reducible apply AP.k_any);first|refine AP.S ?_|(refine AP.Y ?_;dsimp only)|refine AP.G (fun hg=>?_) (fun hg=>?_))|((with_reducible apply AP.k_any);refine AP.CB [] 1 (rnew_ac b hb) ?_)|((with_reducible apply AP.k_any);refine AP.CB [(1,1)] 0 (hrb) ?_)|((with_reducible apply AP.k_any);refine AP.C (hof) ?_)|((with_reducible apply AP.k_any);refine ap_callB 0 [(1,1),(2,1)] rfl rfl (fn:=f4) rfl (htk) (by (repeat' (first|exact PasC.nil|apply PasC.nil|apply PasC.cons|apply PasV.leaf rfl|apply PasV.nl|apply PasV.bp rfl|apply PasV.vp rfl|apply PasV.pz|exact VsM.nil|apply VsM.cons rfl|apply PasV.lend rfl rfl rfl|apply PasV.lend rfl rfl (ro_B _)|apply PasV.lend rfl rfl (ro_M _)|apply PasV.lend rfl rfl (ro_E _ _)|apply PasV.lend rfl rfl (ro_I _)|apply PasV.lend rfl rfl (by (simp only [rn,List.map_cons,List.map_nil];first|done|rfl))|apply PasV.mv rfl|apply PasV.hk rfl|apply PasV.ag|apply PasV.fn|exact PasV.fs|apply PasV.any))) (by (repeat' (first|exact ClsC.nil|apply ClsC.nl|apply ClsC.leaf rfl|apply ClsC.hd rfl|apply ClsC.ob rfl|apply ClsC.mo rfl|apply ClsC.mp rfl|apply ClsC.hp rfl|exact Out.nil|apply Out.cons rfl|apply Out.r rfl|apply Out.f rfl|apply ClsC.fn|apply ClsC.fz rfl (ro_B _)|apply ClsC.fz rfl (ro_M _)|apply ClsC.fz rfl (ro_E _ _)|apply ClsC.fz rfl rfl))) rfl (by (repeat' (first|exact Bk.nil|apply Bk.cons rfl rfl rfl|apply Bk.r rfl))) (by (repeat' (first|exact RnV.leaf rfl|exact RnV.fs|exact RnC.nil|apply RnC.cons|apply RnV.ag|apply RnV.tu|apply RnV.fn|exact RnV.bp rfl))) rfl ?_)|((with_reducible apply AP.k_any);refine AP.CB [(1,1)] 0 (hend) ?_)|((with_reducible apply AP.k_any);refine AP.C (hm) ?_))<;>(try refine NX ?_))|(refine AP.N0 ?_;try clear hQ' Q')|((with_reducible apply CP.k_reg);refine cp_regG fun Q' hQ'=>?_)|refine CP.W ?_|refine cp_cond rfl (fun hc=>?_) (fun hc=>?_)|(simp only [List.append_eq,List.cons_append,List.nil_append]))
    all_goals first
      | (exfalso;simp at *;done)
      | (exact RetQ.A [] (by exact ⟨rfl,rfl⟩))
  · rw [if_neg hg]
    refine AC.N Tryz.func46 Tryz.ntmps46 ?_
    intro X hρ hmks
    refine NX ?_
    repeat' (first|((first|((with_reducible apply AP.k_any);first|refine AP.S ?_|(refine AP.Y ?_;dsimp only)|refine AP.G (fun hg=>?_) (fun hg=>?_))|((with_reducible apply AP.k_any);refine AP.CB [] 1 (rnew_ac b hb) ?_)|((with_reducible apply AP.k_any);refine AP.CB [(1,1)] 0 (hrb) ?_)|((with_reducible apply AP.k_any);refine AP.C (hof) ?_)|((with_reducible apply AP.k_any);refine ap_callB 0 [(1,1),(2,1)] rfl rfl (fn:=f4) rfl (htk) (by (repeat' (first|exact PasC.nil|apply PasC.nil|apply PasC.cons|apply PasV.leaf rfl|apply PasV.nl|apply PasV.bp rfl|apply PasV.vp rfl|apply PasV.pz|exact VsM.nil|apply VsM.cons rfl|apply PasV.lend rfl rfl rfl|apply PasV.lend rfl rfl (ro_B _)|apply PasV.lend rfl rfl (ro_M _)|apply PasV.lend rfl rfl (ro_E _ _)|apply PasV.lend rfl rfl (ro_I _)|apply PasV.lend rfl rfl (by (simp only [rn,List.map_cons,List.map_nil];first|done|rfl))|apply PasV.mv rfl|apply PasV.hk rfl|apply PasV.ag|apply PasV.fn|exact PasV.fs|apply PasV.any))) (by (repeat' (first|exact ClsC.nil|apply ClsC.nl|apply ClsC.leaf rfl|apply ClsC.hd rfl|apply ClsC.ob rfl|apply ClsC.mo rfl|apply ClsC.mp rfl|apply ClsC.hp rfl|exact Out.nil|apply Out.cons rfl|apply Out.r rfl|apply Out.f rfl|apply ClsC.fn|apply ClsC.fz rfl (ro_B _)|apply ClsC.fz rfl (ro_M _)|apply ClsC.fz rfl (ro_E _ _)|apply ClsC.fz rfl rfl))) rfl (by (repeat' (first|exact Bk.nil|apply Bk.cons rfl rfl rfl|apply Bk.r rfl))) (by (repeat' (first|exact RnV.leaf rfl|exact RnV.fs|exact RnC.nil|apply RnC.cons|apply RnV.ag|apply RnV.tu|apply RnV.fn|exact RnV.bp rfl))) rfl ?_)|((with_reducible apply AP.k_any);refine AP.CB [(1,1)] 0 (hend) ?_)|((with_reducible apply AP.k_any);refine AP.C (hm) ?_))<;>(try refine NX ?_))|(refine AP.N0 ?_;try clear hQ' Q')|((with_reducible apply CP.k_reg);refine cp_regG fun Q' hQ'=>?_)|refine CP.W ?_|refine cp_cond rfl (fun hc=>?_) (fun hc=>?_)|(simp only [List.append_eq,List.cons_append,List.nil_append]))
    all_goals first
      | (exfalso;simp at *;done)
      | (exfalso;simp at *;simp_all;done)
      | (exact RetQ.A [] (by exact ⟨rfl,rfl⟩))
theorem parse_ac (b:List UInt8) (hb:b.length≤100000000):AC Tryz.prog 46 [bs none b] [] (fun v bs'=>v=.tu [.ag (eG (parseM b).1),I (parseM b).2]∧bs'=[]):=by
  rcases kind_cases (byteR (newR b)).1 with hk|hk|hk|hk|hk|hk|hk
  · exact parseG_ac _ _ _ _ b hb _ _ (takeAsk (byteR (newR b)).1 (byteR (newR b)).2).2 (takeAsk (byteR (newR b)).1 (byteR (newR b)).2).1 rfl (by simp only [readM,takeM,hk]) (of1_ac { msg0 with kind:=(byteR (newR b)).1 } hk) (ktake4_ac _ _ (byteR_len (newR_le hb))) (by simp [takeAsk,msg0]) (by simp [takeAsk,msg0,cfg0])
  · exact parseG_ac _ _ _ _ b hb _ _ (takeEnt (byteR (newR b)).1 (byteR (newR b)).2).2 (takeEnt (byteR (newR b)).1 (byteR (newR b)).2).1 rfl (by simp only [readM,takeM,hk]) (of2_ac { msg0 with kind:=(byteR (newR b)).1 } hk) (etake4_ac _ _ (byteR_len (newR_le hb))) (by simp [takeEnt,entsR_fst_len];have:=countR_le (m:=4) (st:=(intR (intR (byteR (newR b)).2).2).2) (by omega);omega) (by simp [takeEnt,msg0,cfg0])
  · exact parseG_ac _ _ _ _ b hb _ _ (takeHave (byteR (newR b)).1 (byteR (newR b)).2).2 (takeHave (byteR (newR b)).1 (byteR (newR b)).2).1 rfl (by simp only [readM,takeM,hk]) (of3_ac { msg0 with kind:=(byteR (newR b)).1 } hk) (ktake8_ac _ _ (byteR_len (newR_le hb))) (by simp [takeHave,msg0]) (by simp [takeHave,msg0,cfg0])
  · exact parseG_ac _ _ _ _ b hb _ _ (takeCfg (byteR (newR b)).1 (byteR (newR b)).2).2 (takeCfg (byteR (newR b)).1 (byteR (newR b)).2).1 rfl (by simp only [readM,takeM,hk]) (of4_ac { msg0 with kind:=(byteR (newR b)).1 } hk) (ktake12_ac _ _ (byteR_len (newR_le hb))) (by simp [takeCfg,msg0]) (by simp [takeCfg,configR];rw [memsR_fst_len];have:=countR_le (m:=5) (st:=(intR (byteR (newR b)).2).2) (by omega);omega)
  · exact parseG_ac _ _ _ _ b hb _ _ (takeWhole (byteR (newR b)).1 (byteR (newR b)).2).2 (takeWhole (byteR (newR b)).1 (byteR (newR b)).2).1 rfl (by simp only [readM,takeM,hk]) (of5_ac { msg0 with kind:=(byteR (newR b)).1 } hk) (ktake16_ac _ _ (byteR_len (newR_le hb))) (by simp [takeWhole,msg0]) (by simp [takeWhole,msg0,cfg0])
  · exact parseG_ac _ _ _ _ b hb _ _ (takeAsk (byteR (newR b)).1 (byteR (newR b)).2).2 (takeAsk (byteR (newR b)).1 (byteR (newR b)).2).1 rfl (by simp only [readM,takeM,hk]) (of6_ac { msg0 with kind:=(byteR (newR b)).1 } hk) (ktake4_ac _ _ (byteR_len (newR_le hb))) (by simp [takeAsk,msg0]) (by simp [takeAsk,msg0,cfg0])
  · have hn:=newR_le hb
    have hof:=ofNo_ac { msg0 with kind:=(byteR (newR b)).1 } hk
    have hrb:=rbyte_ac (newR b) hn
    have hR:readM b=(msg0,(40,[])):=by
      unfold readM takeM
      split<;>first|omega|rfl
    have hP:parseM b=(msg0,200):=by rw [parseM,hR,if_neg (by simp [endR])]
    rw [hP]
    generalize (byteR (newR b)).2=S at hrb ⊢
    generalize (byteR (newR b)).1=k at hof hrb ⊢
    refine AC.N Tryz.func46 Tryz.ntmps46 ?_
    intro X hρ hmks
    refine NX ?_
    repeat' (first|((first|((with_reducible apply AP.k_any);first|refine AP.S ?_|(refine AP.Y ?_;dsimp only)|refine AP.G (fun hg=>?_) (fun hg=>?_))|((with_reducible apply AP.k_any);refine AP.CB [] 1 (rnew_ac b hb) ?_)|((with_reducible apply AP.k_any);refine AP.CB [(1,1)] 0 (hrb) ?_)|((with_reducible apply AP.k_any);refine AP.C (hof) ?_))<;>(try refine NX ?_))|(refine AP.N0 ?_;try clear hQ' Q')|((with_reducible apply CP.k_reg);refine cp_regG fun Q' hQ'=>?_)|refine CP.W ?_|refine cp_cond rfl (fun hc=>?_) (fun hc=>?_)|(simp only [List.append_eq,List.cons_append,List.nil_append]))
    all_goals first
      | (exfalso;simp at *;done)
      | (exact RetQ.A [] (by exact ⟨rfl,rfl⟩))
end Go.Proofs.YtmgneincjfhaoaaGreat

namespace Go.Proofs.YtmgneincjfhaoaaGreat
set_option linter.unusedVariables false
set_option linter.unusedSimpArgs false
set_option maxHeartbeats 8000000
open Go.RowKit
set_option maxRecDepth 100000
abbrev all6:List Int:=[0,1,2,3,4,8]
def Mst.tick (x:Mst):List (List UInt8)×Mst:=tellS x all6
def Mst.goes (x:Mst) (r:Config×Int):(List (List UInt8)×Int)×Mst:=if r.2=0 then (({ x with cfg:=r.1 }.tick.1,0),{ x with cfg:=r.1 }.tick.2) else (([],r.2),x)
def Mst.get (x:Mst) (b:List UInt8):Int×Mst:=
  let r:=x.ends.get b
  let y:Mst:={ x with ends:=r.2 }
  if r.1.2≠0 then (r.1.2,y) else
    let m:=parseM r.1.1.body
    if m.2≠0∨m.1.kind≠5 then (200,y) else (0,{ y with cfg:=(cWhole x.cfg r.1.1.frm m.1.since).1 })
theorem cNext_len (c:Config) (l:List Member):(cNext c l).1.members.length≤l.length:=by
  unfold cNext;split
  · exact Nat.le_refl _
  · exact Nat.zero_le _
theorem cAdd_len (c:Config) (n:Int):(cAdd c n).1.members.length≤c.members.length + 1:=by
  unfold cAdd;split
  · exact Nat.zero_le _
  · exact Nat.le_trans (cNext_len _ _) (by simp)
theorem cRemove_len (c:Config) (n:Int):(cRemove c n).1.members.length≤c.members.length:=by
  unfold cRemove;split
  · exact Nat.zero_le _
  · split
    · exact Nat.zero_le _
    · exact Nat.le_trans (cNext_len _ _) (by simp;omega)
theorem mtick_ac (x:Mst) (hc:x.cfg.members.length≤100000000) (hr:x.ends.root.length≤10000) (hf:x.ends.fit 1000000):AC Tryz.prog 12 [.bp 0 0 0] [mB x] (fun v bs'=>v=bss none x.tick.1∧bs'=[mB x.tick.2]):=by
  have h1:=mnone_ac x
  have h2:=everybody_ac
  have h3:=mtell_ac x all6 hc hr hf (by decide)
  unfold Mst.tick
  generalize tellS x all6=R at *
  obtain ⟨l,y⟩:=R
  refine AC.N Tryz.func12 Tryz.ntmps12 ?_
  intro X hρ hmks
  refine NX ?_
  refine W1 ?_
  (exact RetQ.A [(0,0)] (by exact ⟨rfl,rfl⟩))
theorem mgoes_ac (x:Mst) (r:Config×Int) (hc:r.1.members.length≤100000000) (hr:x.ends.root.length≤10000) (hf:x.ends.fit 1000000) :
    AC Tryz.prog 40 [.bp 0 0 0,.ag (eC none r.1),I r.2] [mB x] (fun v bs'=>v=.tu [bss none (x.goes r).1.1,I (x.goes r).1.2]∧bs'=[mB (x.goes r).2]):=by
  obtain ⟨c,e⟩:=r
  dsimp only at hc ⊢
  by_cases he:e=0
  · subst he
    have h1:=mtick_ac { x with cfg:=c } hc hr hf
    have e:x.goes (c,0)=(({ x with cfg:=c }.tick.1,0),{ x with cfg:=c }.tick.2):=if_pos rfl
    rw [e]
    clear e
    generalize Mst.tick { x with cfg:=c }=R at *
    obtain ⟨l,y⟩:=R
    have sm:((0:Int) != 0)=false:=rfl
    refine AC.N Tryz.func40 Tryz.ntmps40 ?_
    intro X hρ hmks
    refine NX ?_
    refine CP.SL ?_
    refine CP.SL ?_
    refine W1 ?_
    (exact RetQ.A [(0,0)] (by exact ⟨rfl,rfl⟩))
  · have e2:x.goes (c,e)=(([],e),x):=if_neg he
    rw [e2]
    have sm:(e != 0)=true:=by simpa using he
    refine AC.N Tryz.func40 Tryz.ntmps40 ?_
    intro X hρ hmks
    refine NX ?_
    refine CP.SL ?_
    refine CP.SL ?_
    refine W1 ?_
    (exact RetQ.A [(0,0)] (by exact ⟨rfl,rfl⟩))
theorem madd_ac (x:Mst) (n:Int) (hc:x.cfg.members.length≤1000) (hr:x.ends.root.length≤10000) (hf:x.ends.fit 1000000) :
    AC Tryz.prog 14 [.bp 0 0 0,I n] [mB x] (fun v bs'=>v=.tu [bss none (x.goes (cAdd x.cfg n)).1.1,I (x.goes (cAdd x.cfg n)).1.2]∧bs'=[mB (x.goes (cAdd x.cfg n)).2]):=by
  have h1:=mnone_ac x
  have h2:=cadd_ac x.cfg n (by omega)
  have h3:=mgoes_ac x (cAdd x.cfg n) (by have:=cAdd_len x.cfg n;omega) hr hf
  generalize x.goes (cAdd x.cfg n)=R at *
  obtain ⟨⟨l,e⟩,y⟩:=R
  generalize cAdd x.cfg n=r at *
  obtain ⟨c,e1⟩:=r
  dsimp only at *
  refine AC.N Tryz.func14 Tryz.ntmps14 ?_
  intro X hρ hmks
  refine NX ?_
  refine W1 ?_
  (exact RetQ.A [(0,0)] (by exact ⟨rfl,rfl⟩))
theorem mremove_ac (x:Mst) (n:Int) (hc:x.cfg.members.length≤1000) (hr:x.ends.root.length≤10000) (hf:x.ends.fit 1000000) :
    AC Tryz.prog 16 [.bp 0 0 0,I n] [mB x] (fun v bs'=>v=.tu [bss none (x.goes (cRemove x.cfg n)).1.1,I (x.goes (cRemove x.cfg n)).1.2]∧bs'=[mB (x.goes (cRemove x.cfg n)).2]):=by
  have h1:=mnone_ac x
  have h2:=cremove_ac x.cfg n (by omega)
  have h3:=mgoes_ac x (cRemove x.cfg n) (by have:=cRemove_len x.cfg n;omega) hr hf
  generalize x.goes (cRemove x.cfg n)=R at *
  obtain ⟨⟨l,e⟩,y⟩:=R
  generalize cRemove x.cfg n=r at *
  obtain ⟨c,e1⟩:=r
  dsimp only at *
  refine AC.N Tryz.func16 Tryz.ntmps16 ?_
  intro X hρ hmks
  refine NX ?_
  refine W1 ?_
  (exact RetQ.A [(0,0)] (by exact ⟨rfl,rfl⟩))
theorem get_body (x:Ends) (b:List UInt8) {k:Nat} (h:b.length≤k):(x.get b).1.1.body.length≤k:=by
  unfold Ends.get
  dsimp only
  repeat' split
  all_goals first
    | exact Nat.zero_le _
    | exact parseP_body b h
theorem mget_ac (x:Mst) (b:List UInt8) (hb:b.length≤60000) (hc:x.cfg.members.length≤1000) (hr:x.ends.root.length≤10000) (hw:∀ q∈x.ends.wins,q.2.ok) :
    AC Tryz.prog 19 [.bp 0 0 0,bs none b] [mB x] (fun v bs'=>v=I (x.get b).1∧bs'=[mB (x.get b).2]):=by
  have h1:=mnone_ac x
  have h2:=get_ac x.ends b hb hr hw
  have hbl:(x.ends.get b).1.1.body.length≤100000000:=Nat.le_trans (get_body x.ends b (Nat.le_refl _)) (by omega)
  unfold Mst.get
  dsimp only
  generalize x.ends.get b=R at *
  obtain ⟨⟨p,e⟩,E'⟩:=R
  dsimp only at *
  have h3:=parse_ac p.body hbl
  by_cases he:e=0
  · subst he
    rw [if_neg (by simp)]
    have h4:=cwhole_ac x.cfg p.frm (parseM p.body).1.since (by omega)
    generalize parseM p.body=m at *
    obtain ⟨m,f⟩:=m
    dsimp only at *
    have q0:((0:Int) != 0)=false:=rfl
    by_cases hf:f=0
    · subst hf
      by_cases hk:m.kind=5
      · rw [if_neg (by simp [hk])]
        have q1:((m.kind.toNat:Int) != 5)=false:=by rw [hk];rfl
        have sm:=And.intro q0 q1
        generalize cWhole x.cfg p.frm m.since=r at *
        obtain ⟨c,ok⟩:=r
        dsimp only at *
        refine AC.N Tryz.func19 Tryz.ntmps19 ?_
        intro X hρ hmks
        refine NX ?_
        refine CP.SL ?_
        refine CP.SL ?_
        refine CP.SL ?_
        refine W1 ?_
        (exact RetQ.A [(0,0)] (by exact ⟨rfl,rfl⟩))
      · rw [if_pos (.inr hk)]
        have q1:((m.kind.toNat:Int) != 5)=true:=by
          rw [bne_iff_ne];intro h;refine hk (UInt8.toNat_inj.1 ?_);show m.kind.toNat=5;omega
        have sm:=And.intro q0 q1
        refine AC.N Tryz.func19 Tryz.ntmps19 ?_
        intro X hρ hmks
        refine NX ?_
        refine CP.SL ?_
        refine CP.SL ?_
        refine CP.SL ?_
        refine W1 ?_
        (exact RetQ.A [(0,0)] (by exact ⟨rfl,rfl⟩))
    · rw [if_pos (.inl hf)]
      have q1:(f != 0)=true:=by simpa using hf
      have sm:=And.intro q0 q1
      refine AC.N Tryz.func19 Tryz.ntmps19 ?_
      intro X hρ hmks
      refine NX ?_
      refine CP.SL ?_
      refine CP.SL ?_
      refine CP.SL ?_
      refine W1 ?_
      (exact RetQ.A [(0,0)] (by exact ⟨rfl,rfl⟩))
  · rw [if_pos he]
    have sm:(e != 0)=true:=by simpa using he
    refine AC.N Tryz.func19 Tryz.ntmps19 ?_
    intro X hρ hmks
    refine NX ?_
    refine CP.SL ?_
    refine CP.SL ?_
    refine CP.SL ?_
    refine W1 ?_
    (exact RetQ.A [(0,0)] (by exact ⟨rfl,rfl⟩))
end Go.Proofs.YtmgneincjfhaoaaGreat

namespace Go.Proofs.YtmgneincjfhaoaaGreat
set_option linter.unusedVariables false
set_option linter.unusedSimpArgs false
/-- the bytes of the next packet to one -/
def Ends.out (E:Ends) (to ep:Int) (body:List UInt8):List UInt8:=headS (E.pkt to ep body) ++ tagS E.root (E.pkt to ep body)
/-- behind a packet to each one -/
def Ends.told (E:Ends) (ep:Int) (who:List Int):Ends:={ E with sent:=who.foldl (fun s to=>puts (to,ep) s (got (to,ep) s 0 + 1)) E.sent }
theorem may_pkt {E:Ends} {to ep:Int} {body:List UInt8} (h1:whoS E.who=true) (h2:whoS to=true) (h3:E.who≠to) (h4:1≤ep) (h5:0≤E.boot) (h6:0≤got (to,ep) E.sent 0):mayP (E.pkt to ep body)=true:=by
  show (whoS E.who && whoS to && !(E.who == to) && decide (1≤ep) && decide (0≤E.boot) && decide (1≤got (to,ep) E.sent 0 + 1))=true
  rw [h1,h2,decide_eq_true h4,decide_eq_true h5,decide_eq_true (by omega)]
  simp [h3]
theorem fold_told (body:List UInt8) (ep:Int) (h4:1≤ep):∀ (who:List Int) (l:List (List UInt8)) (E:Ends),whoS E.who=true→0≤E.boot→(∀ s,0≤got s E.sent 0)→who.Nodup→(∀ to∈who,whoS to=true∧E.who≠to) →
    who.foldl (eachS body ep) (l,E)=(l ++ who.map (fun to=>E.out to ep body),E.told ep who)∧(∀ s,0≤got s (E.told ep who).sent 0)∧∀ s,got s (E.told ep who).sent 0=if s.2=ep∧s.1∈who then got s E.sent 0 + 1 else got s E.sent 0
  | [],l,E,_,_,h,_,_=>⟨by simp [Ends.told],h,fun s=>by simp [Ends.told]⟩
  | to :: who,l,E,h1,h2,h3,hn,hw=>by
    obtain ⟨hn1,hn2⟩:=List.nodup_cons.1 hn
    obtain ⟨w1,w2⟩:=hw to (by simp)
    have hm:mayP (E.pkt to ep body)=true:=may_pkt h1 w1 w2 h4 h2 (h3 _)
    have e1:eachS body ep (l,E) to=(l ++ [E.out to ep body],E.bump to ep):=by
      unfold eachS Ends.send
      dsimp only
      rw [if_pos hm]
      rfl
    have hg:∀ s,got s (E.bump to ep).sent 0=if s=(to,ep) then got (to,ep) E.sent 0 + 1 else got s E.sent 0:=fun s=>got_puts _ _ _ _ _
    have ih:=fold_told body ep h4 who (l ++ [E.out to ep body]) (E.bump to ep) h1 h2 (fun s=>by rw [hg];have:=h3 s;have:=h3 (to,ep);split<;>omega) hn2 (fun t ht=>hw t (by simp [ht]))
    have e2:(E.bump to ep).told ep who=E.told ep (to :: who):=rfl
    have e3:who.map (fun t=>(E.bump to ep).out t ep body)=who.map (fun t=>E.out t ep body):=List.map_congr_left fun t ht=>by
      have hne:t≠to:=fun e=>hn1 (e ▸ ht)
      have hp:(E.bump to ep).pkt t ep body=E.pkt t ep body:=by
        unfold Ends.pkt
        rw [hg,if_neg (by simp [hne])]
        rfl
      unfold Ends.out
      rw [hp];rfl
    rw [List.foldl_cons,e1]
    rw [e2,e3] at ih
    refine ⟨by rw [ih.1];simp,ih.2.1,fun s=>?_⟩
    rw [ih.2.2 s,hg s]
    obtain ⟨s1,s2⟩:=s
    simp only [Prod.mk.injEq,List.mem_cons]
    by_cases a1:s2=ep
    · by_cases a2:s1=to
      · subst a1 a2
        rw [if_neg (fun h=>hn1 h.2),if_pos ⟨rfl,rfl⟩,if_pos ⟨rfl,.inl rfl⟩]
      · by_cases a3:s1∈who
        · rw [if_pos ⟨a1,a3⟩,if_neg (fun h=>a2 h.1),if_pos ⟨a1,.inr a3⟩]
        · rw [if_neg (fun h=>a3 h.2),if_neg (fun h=>a2 h.1),if_neg (fun h=>h.2.elim a2 a3)]
    · rw [if_neg (fun h=>a1 h.1),if_neg (fun h=>a1 h.2),if_neg (fun h=>a1 h.1)]
theorem tick_told {x:Mst} (hm:mayM (cfgMsg x.cfg)=true) (h4:1≤x.cfg.epoch) (hw:x.ends.who=9) (hb:0≤x.ends.boot) (h3:∀ s,0≤got s x.ends.sent 0) :
    x.tick=(all6.map (fun to=>x.ends.out to x.cfg.epoch (formM (cfgMsg x.cfg))),{ x with ends:=x.ends.told x.cfg.epoch all6 })∧(∀ s,0≤got s (x.ends.told x.cfg.epoch all6).sent 0)∧∀ s,got s (x.ends.told x.cfg.epoch all6).sent 0=if s.2=x.cfg.epoch∧s.1∈all6 then got s x.ends.sent 0 + 1 else got s x.ends.sent 0:=by
  have h:=fold_told (formM (cfgMsg x.cfg)) x.cfg.epoch h4 all6 [] x.ends (by rw [hw];rfl) hb h3 (by decide) (fun t ht=>by
    rw [hw]
    simp only [all6,List.mem_cons,List.not_mem_nil,or_false] at ht
    rcases ht with rfl|rfl|rfl|rfl|rfl|rfl<;>decide)
  refine ⟨?_,h.2⟩
  unfold Mst.tick tellS
  rw [if_pos hm,h.1]
  rfl
end Go.Proofs.YtmgneincjfhaoaaGreat

namespace Go.Proofs.YtmgneincjfhaoaaGreat
set_option linter.unusedVariables false
set_option linter.unusedSimpArgs false
set_option maxHeartbeats 8000000
open Go.RowKit
set_option maxRecDepth 100000
def wholeMsg (since:Int):Msg:={ msg0 with kind:=5,since:=since }
def mwholeS (x:Ends) (ep since:Int):List UInt8×Ends:=((x.send 9 ep (printS (wholeMsg since)).1).1.1,(x.send 9 ep (printS (wholeMsg since)).1).2)
theorem wholeMsg_small (n:Int):(wholeMsg n).small:=⟨Nat.zero_le _,Nat.zero_le _,Nat.zero_le _,fun e he=>by cases he⟩
theorem mwhole_len (n:Int):(printS (wholeMsg n)).1.length≤100:=by
  unfold printS
  split
  · have e:formM (wholeMsg n)=5 :: numS [n]:=rfl
    rw [e,List.length_cons,numS_length];simp
  · exact Nat.zero_le _
theorem mwhole_ac (x:Ends) (ep since:Int) (hr:x.root.length≤10000) (hf:x.fit 1000000):AC Tryz.prog 33 [.bp 0 0 0,I ep,I since] [xE x] (fun v bs'=>v=bs none (mwholeS x ep since).1∧bs'=[xE (mwholeS x ep since).2]):=by
  have h1:=(print_ac (wholeMsg since) (wholeMsg_small since)).ro (r2:=.tu [bs none (printS (wholeMsg since)).1,I (printS (wholeMsg since)).2]) (by simp only [AV.ro,roC,ro_B])
  have h2:=send_ac x 9 ep (printS (wholeMsg since)).1 hr (Nat.le_trans (mwhole_len since) (by omega)) ⟨(hf _).1,Int.le_trans (hf _).2 (by omega)⟩
  unfold mwholeS
  generalize printS (wholeMsg since)=R at *
  obtain ⟨body,e⟩:=R
  dsimp only at *
  generalize x.send 9 ep body=S at *
  obtain ⟨⟨b,f⟩,x'⟩:=S
  dsimp only at *
  refine AC.N Tryz.func33 Tryz.ntmps33 ?_
  intro X hρ hmks
  refine NX ?_
  refine W1 ?_
  (exact RetQ.A [(0,0)] (by exact ⟨rfl,rfl⟩))
def toldS (x:Ends) (b:List UInt8):Config×Bool:=
  if (x.get b).1.2≠0∨(x.get b).1.1.frm≠9 then (cfg0,false) else
    ((parseM (x.get b).1.1.body).1.cfg,decide ((parseM (x.get b).1.1.body).2=0) && decide ((parseM (x.get b).1.1.body).1.kind=4) && decide ((parseM (x.get b).1.1.body).1.cfg.epoch=(x.get b).1.1.epoch))
theorem told_ac (x:Ends) (b:List UInt8) (hb:b.length≤60000) (hr:x.root.length≤10000) (hw:∀ q∈x.wins,q.2.ok):AC Tryz.prog 26 [.bp 0 0 0,bs none b] [xE x] (fun v bs'=>v=.tu [.ag (eC none (toldS x b).1),B (toldS x b).2]∧bs'=[xE (x.get b).2]):=by
  have h2:=get_ac x b hb hr hw
  have hbl:(x.get b).1.1.body.length≤100000000:=Nat.le_trans (get_body x b (Nat.le_refl _)) (by omega)
  unfold toldS
  generalize x.get b=R at *
  obtain ⟨⟨p,e⟩,E'⟩:=R
  dsimp only at *
  have h3:=parse_ac p.body hbl
  by_cases he:e=0
  · subst he
    have q0:((0:Int) != 0)=false:=rfl
    by_cases hp:p.frm=9
    · rw [if_neg (by simp [hp])]
      have q1:(p.frm != 9)=false:=by simpa using hp
      generalize parseM p.body=m at *
      obtain ⟨m,f⟩:=m
      dsimp only at *
      by_cases hf:f=0
      · have q2:(f == 0)=true:=by simpa using hf
        rw [decide_eq_true hf]
        by_cases hk:m.kind=4
        · have q3:((m.kind.toNat:Int) == 4)=true:=by rw [hk];rfl
          rw [decide_eq_true hk]
          have q4:(m.cfg.epoch == p.epoch)=decide (m.cfg.epoch=p.epoch):=rfl
          have sm:=And.intro q0 (And.intro q1 (And.intro q2 (And.intro q3 q4)))
          refine AC.N Tryz.func26 Tryz.ntmps26 ?_
          intro X hρ hmks
          refine NX ?_
          refine CP.SL ?_
          refine CP.SL ?_
          refine CP.SL ?_
          refine W1 ?_
          (exact RetQ.A [(0,0)] (by exact ⟨rfl,rfl⟩))
        · have q3:((m.kind.toNat:Int) == 4)=false:=by
            rw [beq_eq_false_iff_ne];intro h;refine hk (UInt8.toNat_inj.1 ?_);show m.kind.toNat=4;omega
          rw [decide_eq_false hk]
          have sm:=And.intro q0 (And.intro q1 (And.intro q2 q3))
          refine AC.N Tryz.func26 Tryz.ntmps26 ?_
          intro X hρ hmks
          refine NX ?_
          refine CP.SL ?_
          refine CP.SL ?_
          refine CP.SL ?_
          refine W1 ?_
          (exact RetQ.A [(0,0)] (by exact ⟨rfl,rfl⟩))
      · have q2:(f == 0)=false:=by simpa using hf
        rw [decide_eq_false hf]
        have sm:=And.intro q0 (And.intro q1 q2)
        refine AC.N Tryz.func26 Tryz.ntmps26 ?_
        intro X hρ hmks
        refine NX ?_
        refine CP.SL ?_
        refine CP.SL ?_
        refine CP.SL ?_
        refine W1 ?_
        (exact RetQ.A [(0,0)] (by exact ⟨rfl,rfl⟩))
    · rw [if_pos (.inr hp)]
      have q1:(p.frm != 9)=true:=by simpa using hp
      have sm:=And.intro q0 q1
      refine AC.N Tryz.func26 Tryz.ntmps26 ?_
      intro X hρ hmks
      refine NX ?_
      refine CP.SL ?_
      refine CP.SL ?_
      refine CP.SL ?_
      refine W1 ?_
      (exact RetQ.A [(0,0)] (by exact ⟨rfl,rfl⟩))
  · rw [if_pos (.inl he)]
    have sm:(e != 0)=true:=by simpa using he
    refine AC.N Tryz.func26 Tryz.ntmps26 ?_
    intro X hρ hmks
    refine NX ?_
    refine CP.SL ?_
    refine CP.SL ?_
    refine CP.SL ?_
    refine W1 ?_
    (exact RetQ.A [(0,0)] (by exact ⟨rfl,rfl⟩))
end Go.Proofs.YtmgneincjfhaoaaGreat

namespace Go.Proofs.YtmgneincjfhaoaaGreat
set_option linter.unusedVariables false
set_option linter.unusedSimpArgs false
set_option maxHeartbeats 8000000
open Go.RowKit
set_option maxRecDepth 100000
structure Aa where
  what:UInt8
  node:Int
  since:Int
  epoch:Int
  bytes:List UInt8
abbrev eAa (a:Aa):List AV:=[U a.what,I a.node,I a.since,I a.epoch,bs none a.bytes]
abbrev tEp:TypeId:=58
abbrev obE (e:Ends):List AV:=[.ob tEn (enE e)]
abbrev esR (L:List Ends):Bx:=.r tEp 1 (L.map obE)
def Aa.n (a:Aa):Nat:=((IntKind.u64.wrap a.node) % 5).toNat
theorem Aa.n_lt (a:Aa):a.n < 5:=by
  unfold Aa.n
  have h3:=Int.emod_nonneg (IntKind.u64.wrap a.node) (show (5:Int)≠0 by omega)
  have h4:=Int.emod_lt_of_pos (IntKind.u64.wrap a.node) (show (0:Int) < 5 by omega)
  omega
theorem Aa.n_eq (a:Aa):IntKind.i64.wrap ((IntKind.u64.wrap a.node).tmod 5)=(a.n:Int):=by
  have h0:0≤IntKind.u64.wrap a.node:=by unfold IntKind.wrap;simp [IntKind.signed,IntKind.bits];omega
  rw [Int.tmod_eq_emod_of_nonneg h0]
  have h3:=Int.emod_nonneg (IntKind.u64.wrap a.node) (show (5:Int)≠0 by omega)
  have h4:=Int.emod_lt_of_pos (IntKind.u64.wrap a.node) (show (0:Int) < 5 by omega)
  unfold Aa.n
  generalize IntKind.u64.wrap a.node % 5=y at *
  rw [wrap_i64 (by omega) (by omega)]
  omega
def whoM (x:Mst) (n:Nat):Member:=(atC x.cfg n).getD mem0
def askS (x:Mst) (L:List Ends) (a:Aa):List (List UInt8)×Mst×List Ends:=
  match a.what.toNat % 5 with
  | 0=>(x.tick.1,x.tick.2,L)
  | 1=>((x.goes (cAdd x.cfg a.n)).1.1,(x.goes (cAdd x.cfg a.n)).2,L)
  | 2=>((x.goes (cRemove x.cfg a.n)).1.1,(x.goes (cRemove x.cfg a.n)).2,L)
  | 3=>match L[a.n]? with
    | some e=>if 0 < (whoM x a.n).since then ([],(x.get (mwholeS e x.cfg.epoch (whoM x a.n).since).1).2,L.set a.n (mwholeS e x.cfg.epoch (whoM x a.n).since).2) else ([],x,L)
    | none=>([],x,L)
  | _=>([],(x.get a.bytes).2,L)
structure AskH (x:Mst) (L:List Ends) (a:Aa):Prop where
  hc:x.cfg.members.length≤1000
  hr:x.ends.root.length≤10000
  hf:x.ends.fit 1000000
  hw:∀ q∈x.ends.wins,q.2.ok
  hL:L.length=5∨L.length=6
  he:∀ e∈L,e.root.length≤10000∧e.fit 1000000
  hb:a.bytes.length≤1000
theorem what_eq (a:Aa) {k:Nat} (hk:a.what.toNat % 5=k):(a.what.toNat:Int).tmod 5=(k:Int):=by
  rw [Int.tmod_eq_emod_of_nonneg (by omega)]
  omega
theorem tell26_len (x:Ends) (ep since:Int):(mwholeS x ep since).1.length≤60000:=by
  have h:=mwhole_len since
  unfold mwholeS Ends.send
  split
  · show (headS _ ++ tagS _ _).length≤_
    rw [List.length_append,headS_len,tagS_len]
    show 44 + (printS (wholeMsg since)).1.length + 32≤_
    omega
  · exact Nat.zero_le _
theorem ask0 {x:Mst} {L:List Ends} {a:Aa} (H:AskH x L a) (hk:a.what.toNat % 5=0):AC Tryz.prog 25 [.bp 0 0 0,.hd 1 0,.ag (eAa a)] [mB x,esR L] (fun v bs'=>v=bss none (askS x L a).1∧bs'=[mB (askS x L a).2.1,esR (askS x L a).2.2]):=by
  have h1:=mtick_ac x (by have:=H.hc;omega) H.hr H.hf
  have e:askS x L a=(x.tick.1,x.tick.2,L):=by unfold askS;rw [hk];first|exact e0|rfl
  rw [e];dsimp only;clear e
  have q1:=what_eq a hk
  have q2:=a.n_eq
  have q00:(((0:Nat):Int) == 0)=true:=rfl
  have q10:(((1:Nat):Int) == 0)=false:=rfl
  have q11:(((1:Nat):Int) == 1)=true:=rfl
  have q20:(((2:Nat):Int) == 0)=false:=rfl
  have q21:(((2:Nat):Int) == 1)=false:=rfl
  have q22:(((2:Nat):Int) == 2)=true:=rfl
  have q30:(((3:Nat):Int) == 0)=false:=rfl
  have q31:(((3:Nat):Int) == 1)=false:=rfl
  have q32:(((3:Nat):Int) == 2)=false:=rfl
  have q33:(((3:Nat):Int) == 3)=true:=rfl
  have q40:(((4:Nat):Int) == 0)=false:=rfl
  have q41:(((4:Nat):Int) == 1)=false:=rfl
  have q42:(((4:Nat):Int) == 2)=false:=rfl
  have q43:(((4:Nat):Int) == 3)=false:=rfl
  generalize x.tick=R at *
  obtain ⟨out,y⟩:=R
  dsimp only at *
  have sm:=And.intro q1 (And.intro q2 q00)
  refine AC.N Tryz.func25 Tryz.ntmps25 ?_
  intro X hρ hmks
  refine NX ?_
  refine CP.SL ?_
  refine CP.SL ?_
  refine CP.SL ?_
  refine CP.SL ?_
  refine CP.SL ?_
  refine CP.SL ?_
  refine W1 ?_
  (exact RetQ.A [(0,0),(1,0)] (by exact ⟨rfl,rfl⟩))
theorem ask1 {x:Mst} {L:List Ends} {a:Aa} (H:AskH x L a) (hk:a.what.toNat % 5=1):AC Tryz.prog 25 [.bp 0 0 0,.hd 1 0,.ag (eAa a)] [mB x,esR L] (fun v bs'=>v=bss none (askS x L a).1∧bs'=[mB (askS x L a).2.1,esR (askS x L a).2.2]):=by
  have h1:=madd_ac x a.n H.hc H.hr H.hf
  have e:askS x L a=((x.goes (cAdd x.cfg a.n)).1.1,(x.goes (cAdd x.cfg a.n)).2,L):=by unfold askS;rw [hk];first|exact e0|rfl
  rw [e];dsimp only;clear e
  have q1:=what_eq a hk
  have q2:=a.n_eq
  have q00:(((0:Nat):Int) == 0)=true:=rfl
  have q10:(((1:Nat):Int) == 0)=false:=rfl
  have q11:(((1:Nat):Int) == 1)=true:=rfl
  have q20:(((2:Nat):Int) == 0)=false:=rfl
  have q21:(((2:Nat):Int) == 1)=false:=rfl
  have q22:(((2:Nat):Int) == 2)=true:=rfl
  have q30:(((3:Nat):Int) == 0)=false:=rfl
  have q31:(((3:Nat):Int) == 1)=false:=rfl
  have q32:(((3:Nat):Int) == 2)=false:=rfl
  have q33:(((3:Nat):Int) == 3)=true:=rfl
  have q40:(((4:Nat):Int) == 0)=false:=rfl
  have q41:(((4:Nat):Int) == 1)=false:=rfl
  have q42:(((4:Nat):Int) == 2)=false:=rfl
  have q43:(((4:Nat):Int) == 3)=false:=rfl
  generalize x.goes (cAdd x.cfg a.n)=R at *
  obtain ⟨⟨out,f⟩,y⟩:=R
  dsimp only at *
  have sm:=And.intro q1 (And.intro q2 (And.intro q10 q11))
  refine AC.N Tryz.func25 Tryz.ntmps25 ?_
  intro X hρ hmks
  refine NX ?_
  refine CP.SL ?_
  refine CP.SL ?_
  refine CP.SL ?_
  refine CP.SL ?_
  refine CP.SL ?_
  refine CP.SL ?_
  refine W1 ?_
  (exact RetQ.A [(0,0),(1,0)] (by exact ⟨rfl,rfl⟩))
theorem ask2 {x:Mst} {L:List Ends} {a:Aa} (H:AskH x L a) (hk:a.what.toNat % 5=2):AC Tryz.prog 25 [.bp 0 0 0,.hd 1 0,.ag (eAa a)] [mB x,esR L] (fun v bs'=>v=bss none (askS x L a).1∧bs'=[mB (askS x L a).2.1,esR (askS x L a).2.2]):=by
  have h1:=mremove_ac x a.n H.hc H.hr H.hf
  have e:askS x L a=((x.goes (cRemove x.cfg a.n)).1.1,(x.goes (cRemove x.cfg a.n)).2,L):=by unfold askS;rw [hk];first|exact e0|rfl
  rw [e];dsimp only;clear e
  have q1:=what_eq a hk
  have q2:=a.n_eq
  have q00:(((0:Nat):Int) == 0)=true:=rfl
  have q10:(((1:Nat):Int) == 0)=false:=rfl
  have q11:(((1:Nat):Int) == 1)=true:=rfl
  have q20:(((2:Nat):Int) == 0)=false:=rfl
  have q21:(((2:Nat):Int) == 1)=false:=rfl
  have q22:(((2:Nat):Int) == 2)=true:=rfl
  have q30:(((3:Nat):Int) == 0)=false:=rfl
  have q31:(((3:Nat):Int) == 1)=false:=rfl
  have q32:(((3:Nat):Int) == 2)=false:=rfl
  have q33:(((3:Nat):Int) == 3)=true:=rfl
  have q40:(((4:Nat):Int) == 0)=false:=rfl
  have q41:(((4:Nat):Int) == 1)=false:=rfl
  have q42:(((4:Nat):Int) == 2)=false:=rfl
  have q43:(((4:Nat):Int) == 3)=false:=rfl
  generalize x.goes (cRemove x.cfg a.n)=R at *
  obtain ⟨⟨out,f⟩,y⟩:=R
  dsimp only at *
  have sm:=And.intro q1 (And.intro q2 (And.intro q20 (And.intro q21 q22)))
  refine AC.N Tryz.func25 Tryz.ntmps25 ?_
  intro X hρ hmks
  refine NX ?_
  refine CP.SL ?_
  refine CP.SL ?_
  refine CP.SL ?_
  refine CP.SL ?_
  refine CP.SL ?_
  refine CP.SL ?_
  refine W1 ?_
  (exact RetQ.A [(0,0),(1,0)] (by exact ⟨rfl,rfl⟩))
theorem ask4 {x:Mst} {L:List Ends} {a:Aa} (H:AskH x L a) (hk:a.what.toNat % 5=4):AC Tryz.prog 25 [.bp 0 0 0,.hd 1 0,.ag (eAa a)] [mB x,esR L] (fun v bs'=>v=bss none (askS x L a).1∧bs'=[mB (askS x L a).2.1,esR (askS x L a).2.2]):=by
  have h1:=mget_ac x a.bytes (by have:=H.hb;omega) H.hc H.hr H.hw
  have e:askS x L a=([],(x.get a.bytes).2,L):=by unfold askS;rw [hk];first|exact e0|rfl
  rw [e];dsimp only;clear e
  have q1:=what_eq a hk
  have q2:=a.n_eq
  have q00:(((0:Nat):Int) == 0)=true:=rfl
  have q10:(((1:Nat):Int) == 0)=false:=rfl
  have q11:(((1:Nat):Int) == 1)=true:=rfl
  have q20:(((2:Nat):Int) == 0)=false:=rfl
  have q21:(((2:Nat):Int) == 1)=false:=rfl
  have q22:(((2:Nat):Int) == 2)=true:=rfl
  have q30:(((3:Nat):Int) == 0)=false:=rfl
  have q31:(((3:Nat):Int) == 1)=false:=rfl
  have q32:(((3:Nat):Int) == 2)=false:=rfl
  have q33:(((3:Nat):Int) == 3)=true:=rfl
  have q40:(((4:Nat):Int) == 0)=false:=rfl
  have q41:(((4:Nat):Int) == 1)=false:=rfl
  have q42:(((4:Nat):Int) == 2)=false:=rfl
  have q43:(((4:Nat):Int) == 3)=false:=rfl
  generalize x.get a.bytes=R at *
  obtain ⟨f,y⟩:=R
  dsimp only at *
  have sm:=And.intro q1 (And.intro q2 (And.intro q40 (And.intro q41 (And.intro q42 (And.intro q43 (@List.nil_append (List AV)))))))
  have hlb:([]:List (List AV)).length + (a.bytes.map eB).length≤1000000000:=by have:=H.hb;simp;omega
  refine AC.N Tryz.func25 Tryz.ntmps25 ?_
  intro X hρ hmks
  refine NX ?_
  refine CP.SL ?_
  refine CP.SL ?_
  refine CP.SL ?_
  refine CP.SL ?_
  refine CP.SL ?_
  refine CP.SL ?_
  refine W1 ?_
  (exact RetQ.A [(0,0),(1,0)] (by exact ⟨rfl,rfl⟩))
theorem ask3_no {x:Mst} {L:List Ends} {a:Aa} (H:AskH x L a) (hs:¬ 0 < (whoM x a.n).since) (hk:a.what.toNat % 5=3):AC Tryz.prog 25 [.bp 0 0 0,.hd 1 0,.ag (eAa a)] [mB x,esR L] (fun v bs'=>v=bss none (askS x L a).1∧bs'=[mB (askS x L a).2.1,esR (askS x L a).2.2]):=by
  have hn:a.n < L.length:=by have:=a.n_lt;have:=H.hL;omega
  have h1:=mconfig_ac x (by have:=H.hc;omega)
  have h2:=cAt_ac x.cfg a.n (by have:=H.hc;omega)
  have e0:(match L[a.n]? with
    | some e=>if 0 < (whoM x a.n).since then (([]:List (List UInt8)),(x.get (mwholeS e x.cfg.epoch (whoM x a.n).since).1).2,L.set a.n (mwholeS e x.cfg.epoch (whoM x a.n).since).2) else ([],x,L)
    | none=>([],x,L))=([],x,L):=by
    split
    · rw [if_neg hs]
    · rfl
  have e:askS x L a=([],x,L):=by unfold askS;rw [hk];first|exact e0|rfl
  rw [e];dsimp only;clear e
  have q1:=what_eq a hk
  have q2:=a.n_eq
  have q00:(((0:Nat):Int) == 0)=true:=rfl
  have q10:(((1:Nat):Int) == 0)=false:=rfl
  have q11:(((1:Nat):Int) == 1)=true:=rfl
  have q20:(((2:Nat):Int) == 0)=false:=rfl
  have q21:(((2:Nat):Int) == 1)=false:=rfl
  have q22:(((2:Nat):Int) == 2)=true:=rfl
  have q30:(((3:Nat):Int) == 0)=false:=rfl
  have q31:(((3:Nat):Int) == 1)=false:=rfl
  have q32:(((3:Nat):Int) == 2)=false:=rfl
  have q33:(((3:Nat):Int) == 3)=true:=rfl
  have q40:(((4:Nat):Int) == 0)=false:=rfl
  have q41:(((4:Nat):Int) == 1)=false:=rfl
  have q42:(((4:Nat):Int) == 2)=false:=rfl
  have q43:(((4:Nat):Int) == 3)=false:=rfl
  unfold whoM at hs
  generalize (atC x.cfg a.n).getD mem0=m at *
  have d1:=decide_eq_false hs
  have sm:=And.intro q1 (And.intro q2 (And.intro q30 (And.intro q31 (And.intro q32 (And.intro q33 d1)))))
  refine AC.N Tryz.func25 Tryz.ntmps25 ?_
  intro X hρ hmks
  refine NX ?_
  refine CP.SL ?_
  refine CP.SL ?_
  refine CP.SL ?_
  refine CP.SL ?_
  refine CP.SL ?_
  refine CP.SL ?_
  refine W1 ?_
  (exact RetQ.A [(0,0),(1,0)] (by exact ⟨rfl,rfl⟩))
theorem ask3_yes {x:Mst} {L:List Ends} {a:Aa} (H:AskH x L a) (hs:0 < (whoM x a.n).since) (hk:a.what.toNat % 5=3):AC Tryz.prog 25 [.bp 0 0 0,.hd 1 0,.ag (eAa a)] [mB x,esR L] (fun v bs'=>v=bss none (askS x L a).1∧bs'=[mB (askS x L a).2.1,esR (askS x L a).2.2]):=by
  have hn:a.n < L.length:=by have:=a.n_lt;have:=H.hL;omega
  have h1:=mconfig_ac x (by have:=H.hc;omega)
  have h2:=cAt_ac x.cfg a.n (by have:=H.hc;omega)
  have hL:L[a.n]? = some L[a.n]:=List.getElem?_eq_getElem hn
  have hro:(L.map obE)[a.n]? = some [.ob tEn (enE L[a.n])]:=by rw [List.getElem?_map,hL];rfl
  have hset:∀ e:Ends,(L.map obE).set a.n [.ob tEn (enE e)]=(L.set a.n e).map obE:=fun e=>by rw [List.map_set]
  have hln:(L.map obE).length=L.length:=List.length_map ..
  obtain ⟨k1,k2⟩:=H.he _ (List.getElem_mem hn)
  have h3:=mwhole_ac L[a.n] x.cfg.epoch (whoM x a.n).since k1 k2
  have h4:=mget_ac x (mwholeS L[a.n] x.cfg.epoch (whoM x a.n).since).1 (tell26_len _ _ _) H.hc H.hr H.hw
  have e0:(match L[a.n]? with
    | some e=>if 0 < (whoM x a.n).since then (([]:List (List UInt8)),(x.get (mwholeS e x.cfg.epoch (whoM x a.n).since).1).2,L.set a.n (mwholeS e x.cfg.epoch (whoM x a.n).since).2) else ([],x,L)
    | none=>([],x,L))=([],(x.get (mwholeS L[a.n] x.cfg.epoch (whoM x a.n).since).1).2,L.set a.n (mwholeS L[a.n] x.cfg.epoch (whoM x a.n).since).2):=by
    rw [hL];exact if_pos hs
  have e:askS x L a=([],(x.get (mwholeS L[a.n] x.cfg.epoch (whoM x a.n).since).1).2,L.set a.n (mwholeS L[a.n] x.cfg.epoch (whoM x a.n).since).2):=by unfold askS;rw [hk];first|exact e0|rfl
  rw [e];dsimp only;clear e
  have q1:=what_eq a hk
  have q2:=a.n_eq
  have q00:(((0:Nat):Int) == 0)=true:=rfl
  have q10:(((1:Nat):Int) == 0)=false:=rfl
  have q11:(((1:Nat):Int) == 1)=true:=rfl
  have q20:(((2:Nat):Int) == 0)=false:=rfl
  have q21:(((2:Nat):Int) == 1)=false:=rfl
  have q22:(((2:Nat):Int) == 2)=true:=rfl
  have q30:(((3:Nat):Int) == 0)=false:=rfl
  have q31:(((3:Nat):Int) == 1)=false:=rfl
  have q32:(((3:Nat):Int) == 2)=false:=rfl
  have q33:(((3:Nat):Int) == 3)=true:=rfl
  have q40:(((4:Nat):Int) == 0)=false:=rfl
  have q41:(((4:Nat):Int) == 1)=false:=rfl
  have q42:(((4:Nat):Int) == 2)=false:=rfl
  have q43:(((4:Nat):Int) == 3)=false:=rfl
  have hset1:=hset (mwholeS L[a.n] x.cfg.epoch (whoM x a.n).since).2
  clear hset e0 hL k1 k2
  unfold whoM at *
  generalize (atC x.cfg a.n).getD mem0=m at *
  generalize L[a.n]=e at *
  generalize mwholeS e x.cfg.epoch m.since=S at *
  obtain ⟨b,e'⟩:=S
  dsimp only at *
  generalize x.get b=G at *
  obtain ⟨f,y⟩:=G
  dsimp only at *
  have d1:=decide_eq_true hs
  generalize a.n=n at *
  refine AC.N Tryz.func25 Tryz.ntmps25 ?_
  intro X hρ hmks
  refine NX ?_
  refine CP.SL ?_
  refine CP.SL ?_
  refine CP.SL ?_
  refine CP.SL ?_
  refine CP.SL ?_
  refine CP.SL ?_
  repeat' (first|((first|((with_reducible apply AP.k_any);first|refine AP.ST ?_|(refine AP.Y ?_;dsimp only)|refine AP.G (fun hg=>?_) (fun hg=>?_)|(refine AP.V (fun c hnil=>?_);simp only [nz])|((with_reducible apply AP.k_any);refine AP.B 0 (h1) ?_)|refine AP.PF ?_))<;>(try simp only [q1,q2,q30,q31,q32,q33,d1,nq,Nat.reduceBEq,Nat.reduceAdd,Nat.reduceSub]))|refine CP.TN ?_|((with_reducible apply CP.k_reg);refine cp_regG fun Q' hQ'=>?_)|((with_reducible apply CP.k_cond);refine cp_cond rfl (fun hc=>?_) (fun hc=>?_))|(simp only [List.append_eq,List.cons_append,List.nil_append]))
  refine CP.gh (gh_open (j:=1) (n:=n) rfl hro rfl rfl) ?_
  simp only [opnC,opnA,nx,Nat.reduceAdd,Nat.reduceSub,BEq.rfl]
  repeat' (first|((first|((with_reducible apply AP.k_any);first|refine AP.ST ?_|(refine AP.Y ?_;dsimp only)|refine AP.G (fun hg=>?_) (fun hg=>?_)|(refine AP.V (fun c hnil=>?_);simp only [nz])|((with_reducible apply AP.k_any);refine AP.B 0 (h3) ?_)|((with_reducible apply AP.k_any);refine AP.B 0 (h4) ?_)|refine AP.PF ?_)|((with_reducible apply DW.k_any);first|refine DW.ST ?_|((fail_if_success refine DW.known rfl ?_);refine DW.G (fun hg=>?_) (fun hg=>?_)))|((with_reducible apply DW.k_any);first|refine DW.R ?_|refine DW.R' ?_|refine DW.W ?_|refine DW.W' ?_|(refine DW.known rfl ?_;(with_reducible first|apply DW.sx 2|apply DW.sxN 2);(iterate 2 (focus (simp only [ft,nm,Nat.reduceAdd,Nat.reduceBEq,List.getElem?_cons_zero,List.getElem?_cons_succ];exact rfl)));(focus (intro X V;simp only [ft,nm,Nat.reduceAdd,Nat.reduceBEq];(try (refine AP.Y ?_;dsimp only));(first|((with_reducible apply AP.k_any);refine AP.B 0 (h3) ?_)|((with_reducible apply AP.k_any);refine AP.B 0 (h4) ?_)|fail);(try refine NX ?_);refine AP.nil ?_;(first|refine ⟨trivial,rfl,?_⟩|refine ⟨rfl,rfl,?_⟩);(repeat' (first|exact Mg.nil|apply Mg.keep rfl|apply Mg.take rfl));done));(focus (refine Exists.intro (fun _=>0) ?_;apply Exists.intro;(repeat' (first|exact Mg.nil|apply Mg.keep rfl|apply Mg.take rfl));done));(iterate 2 (focus (exact rfl))))|((fail_if_success refine DW.known rfl ?_);refine DW.G (fun hg=>?_) (fun hg=>?_))))<;>(try simp only [hln,nq,Nat.reduceBEq,Nat.reduceAdd,Nat.reduceSub]))|refine CP.TL ?_|((with_reducible apply CP.k_drw);refine cp_drwX fun Q' hQ'=>?_)|((with_reducible apply CP.k_reg);refine cp_regG fun Q' hQ'=>?_)|((with_reducible apply CP.k_cond);refine cp_cond rfl (fun hc=>?_) (fun hc=>?_))|(simp only [List.append_eq,List.cons_append,List.nil_append]))
  (exact RetQ.A [(0,0),(1,0)] (by exact ⟨rfl,congrArg (fun r=>[mB y,Bx.r tEp 1 r]) hset1⟩))
theorem ask_ac {x:Mst} {L:List Ends} {a:Aa} (H:AskH x L a):AC Tryz.prog 25 [.bp 0 0 0,.hd 1 0,.ag (eAa a)] [mB x,esR L] (fun v bs'=>v=bss none (askS x L a).1∧bs'=[mB (askS x L a).2.1,esR (askS x L a).2.2]):=by
  have h:a.what.toNat % 5=0∨a.what.toNat % 5=1∨a.what.toNat % 5=2∨a.what.toNat % 5=3∨a.what.toNat % 5=4:=by omega
  rcases h with h|h|h|h|h
  · exact ask0 H h
  · exact ask1 H h
  · exact ask2 H h
  · by_cases hs:0 < (whoM x a.n).since
    · exact ask3_yes H hs h
    · exact ask3_no H hs h
  · exact ask4 H h
end Go.Proofs.YtmgneincjfhaoaaGreat

namespace Go.Proofs.YtmgneincjfhaoaaGreat
set_option linter.unusedVariables false
set_option linter.unusedSimpArgs false
theorem take_ok {w:Wn} {b n:Int} (h:w.ok) (hn:n≤9223372036854775807):(w.take b n).2.ok:=by
  unfold Wn.take
  split
  · exact h
  rename_i h1
  split
  · show (w.after b n).ok
    unfold Wn.after
    split
    · exact h
    split
    · exact h
    have hb:(w.base b).ok:=by
      unfold Wn.base
      split
      · exact ⟨Int.le_refl _,(by decide:(0:Int)≤9223372036854775807)⟩
      · exact h
    generalize w.base b=x at *
    have hf:(x.far n).ok:=by
      unfold Wn.far
      split
      · exact ⟨by dsimp only;omega,hn⟩
      · exact hb
    unfold Wn.go
    generalize x.far n=y at *
    show 0≤(y.ups _).top∧(y.ups _).top≤_
    rw [Wn.ups_top]
    unfold Wn.ok at hf
    omega
  · exact h
theorem puts_mem {α:Type} {s:Sd} {v:α} {q:Sd×α}:∀ {l:List (Sd×α)},q∈puts s l v→q∈l∨q=(s,v)
  | [],h=>by
    have:q∈[(s,v)]:=h
    exact .inr (List.mem_singleton.1 this)
  | p :: l,h=>by
    rw [puts_cons] at h
    split at h
    · rcases List.mem_cons.1 h with h|h
      · exact .inr h
      · exact .inl (List.mem_cons_of_mem _ h)
    · rcases List.mem_cons.1 h with h|h
      · exact .inl (h ▸ List.mem_cons_self ..)
      · rcases puts_mem h with h|h
        · exact .inl (List.mem_cons_of_mem _ h)
        · exact .inr h
/-- a window behind numbers that rise -/
theorem go_top {x:Wn} {n:Int} (h:x.top≤n):(x.go n).top=n∧(x.go n).boot=x.boot:=by
  unfold Wn.go
  show ((x.far n).ups _).top=n∧((x.far n).ups _).boot=x.boot
  rw [Wn.ups_top,Wn.ups_boot]
  unfold Wn.far
  split
  · exact ⟨by dsimp only;omega,rfl⟩
  · exact ⟨by omega,rfl⟩
theorem rise {w:Wn} {b n:Int} (hb:w.boot < b∨(w.boot=b∧w.top < n)) (h1:1≤n):w.taken b n=true∧(w.after b n).top=n∧(w.after b n).boot=b:=by
  have hold:(w.base b).old n=false:=by
    unfold Wn.base Wn.old
    simp only [Bool.or_eq_false_iff,Bool.and_eq_false_iff,decide_eq_false_iff_not]
    split
    · exact ⟨by dsimp only;omega,.inl (by dsimp only;omega)⟩
    · exact ⟨by omega,.inl (by omega)⟩
  have ht:w.taken b n=true:=by
    unfold Wn.taken
    rw [hold]
    simp;omega
  have e:w.after b n=(w.base b).go n:=by
    unfold Wn.after
    rw [if_neg (by omega),if_neg (by rw [hold];simp)]
  rw [e]
  unfold Wn.base
  split
  · rename_i hlt
    have:=go_top (x:=⟨b,0,fun _=>false⟩) (n:=n) (by dsimp only;omega)
    exact ⟨ht,this.1,this.2⟩
  · rename_i hlt
    have:=go_top (x:=w) (n:=n) (by omega)
    exact ⟨ht,this.1,by rw [this.2];omega⟩
theorem rise_again {w:Wn} {b n:Int} (hb:w.boot < b∨(w.boot=b∧w.top < n)) (h1:1≤n):(w.after b n).taken b n=false:=by
  obtain ⟨_,h2,h3⟩:=rise hb h1
  have hc:(w.after b n).came (res64 n)=true:=by
    have hold:(w.base b).old n=false:=by
      unfold Wn.base Wn.old
      simp only [Bool.or_eq_false_iff,Bool.and_eq_false_iff,decide_eq_false_iff_not]
      split
      · exact ⟨by dsimp only;omega,.inl (by dsimp only;omega)⟩
      · exact ⟨by omega,.inl (by omega)⟩
    unfold Wn.after
    rw [if_neg (by omega),if_neg (by rw [hold];simp)]
    simp [Wn.go,Wn.mark,upd]
  generalize w.after b n=y at *
  have e:y.base b=y:=by unfold Wn.base;rw [if_neg (by omega)]
  unfold Wn.taken Wn.old
  rw [e,hc,decide_eq_true (show n≤y.top by omega)]
  simp
/-- a window of the boot 1 that knows no number above n -/
def Wl (w:Wn) (n:Int):Prop:=w.ok∧(w.boot < 1∨(w.boot=1∧w.top≤n))
theorem Wl.new (n:Int):Wl Wn.new n:=⟨⟨Int.le_refl _,by decide⟩,.inl (by decide)⟩
theorem Wl.up {w:Wn} {n m:Int} (h:Wl w n) (hm:n≤m):Wl w m:=⟨h.1,h.2.imp id fun h=>⟨h.1,by omega⟩⟩
theorem Wl.take {w:Wn} {n:Int} (h:Wl w n) (h0:0≤n) (h1:n≤1000000):w.take 1 (n + 1)=(0,w.after 1 (n + 1))∧Wl (w.after 1 (n + 1)) (n + 1)∧(w.after 1 (n + 1)).take 1 (n + 1)=(180,w.after 1 (n + 1)):=by
  have hb:w.boot < 1∨(w.boot=1∧w.top < n + 1):=h.2.imp id fun h=>⟨h.1,by omega⟩
  obtain ⟨t1,t2,t3⟩:=rise hb (by omega)
  have t4:=rise_again hb (by omega)
  refine ⟨?_,⟨⟨by omega,by omega⟩,.inr ⟨t3,by omega⟩⟩,?_⟩
  · unfold Wn.take;rw [if_neg (by omega),if_pos t1]
  · unfold Wn.take;rw [if_neg (by omega),if_neg (by rw [t4];simp)]
theorem got_wok {l:List (Sd×Wn)} (h:∀ q∈l,q.2.ok) (s:Sd):(got s l Wn.new).ok:=by
  unfold got
  split
  · split
    · rename_i hx;exact h _ (List.mem_of_getElem? hx)
    · exact ⟨Int.le_refl _,by decide⟩
  · exact ⟨Int.le_refl _,by decide⟩
theorem get_wok {x:Ends} (b:List UInt8) (h:∀ q∈x.wins,q.2.ok):∀ q∈(x.get b).2.wins,q.2.ok:=by
  have hsq:=parseP_seqn b
  unfold Ends.get
  split
  · exact h
  split
  · exact h
  dsimp only
  have hn:∀ q∈puts ((parseP b).1.frm,(parseP b).1.epoch) x.wins ((got ((parseP b).1.frm,(parseP b).1.epoch) x.wins Wn.new).take (parseP b).1.boot (parseP b).1.seqn).2,q.2.ok:=fun q hq=>by
    rcases puts_mem hq with hq|rfl
    · exact h q hq
    · exact take_ok (got_wok h _) hsq
  split<;>exact hn
theorem get_keep (x:Ends) (b:List UInt8):(x.get b).2.root=x.root∧(x.get b).2.who=x.who∧(x.get b).2.boot=x.boot∧(x.get b).2.sent=x.sent:=by
  unfold Ends.get
  split
  · exact ⟨rfl,rfl,rfl,rfl⟩
  split
  · exact ⟨rfl,rfl,rfl,rfl⟩
  dsimp only
  split<;>exact ⟨rfl,rfl,rfl,rfl⟩
end Go.Proofs.YtmgneincjfhaoaaGreat

namespace Go.Proofs.YtmgneincjfhaoaaGreat
set_option linter.unusedVariables false
set_option linter.unusedSimpArgs false
/-- what stays true of a master and of those that send to it -/
structure Mi (root:List UInt8) (x:Mst) (L:List Ends) (i:Nat):Prop where
  may:mayC x.cfg=true
  xr:x.ends.root=root
  xf:x.ends.fit (6 * i)
  xw:∀ q∈x.ends.wins,q.2.ok
  l:∀ e∈L,e.root=root∧e.fit i
/-- the next configuration: it may be, one epoch further at most, a whole member stays -/
structure Nx (c d:Config):Prop where
  may:mayC d=true
  lo:c.epoch≤d.epoch
  hi:d.epoch≤c.epoch + 1
  sh:∃ m∈c.members,m.whole=true∧∃ m'∈d.members,m'.node=m.node
theorem mayC_head {c:Config} (h:mayC c=true):∃ m l,c.members=m :: l∧m.whole=true:=by
  have h1:=mayC_of h
  simp only [mayC,Bool.and_eq_true] at h
  cases hc:c.members with
  | nil=>rw [hc] at h1;simp at h1
  | cons m l=>
    refine ⟨m,l,rfl,?_⟩
    have h2:=h.2
    rw [hc] at h2
    simp only [mayL,okM,Bool.and_eq_true,Bool.or_eq_true,decide_eq_true_eq] at h2
    rcases h2.1.2 with h3|h3
    · exact h3
    · exact absurd rfl h3.1
theorem Nx.refl {c:Config} (h:mayC c=true):Nx c c:=by
  obtain ⟨m,l,e,hw⟩:=mayC_head h
  exact ⟨h,Int.le_refl _,by omega,m,by rw [e];simp,hw,m,by rw [e];simp,rfl⟩
theorem cNext_two (c:Config) (l:List Member):(cNext c l).2≠0∨((cNext c l).1=⟨c.epoch + 1,l⟩∧mayC ⟨c.epoch + 1,l⟩=true):=by
  unfold cNext
  split
  · rename_i h;exact .inr ⟨rfl,h⟩
  · exact .inl (by decide)
theorem cAdd_two {c:Config} (h:mayC c=true) (n:Int):(cAdd c n).2≠0∨Nx c (cAdd c n).1:=by
  unfold cAdd
  split
  · exact .inl (by decide)
  · rcases cNext_two c (c.members ++ [⟨n,c.epoch + 1,false⟩]) with h1|⟨h1,h2⟩
    · exact .inl h1
    · right
      rw [h1]
      obtain ⟨m,l,e,hw⟩:=mayC_head h
      exact ⟨h2,by dsimp only;omega,by dsimp only;omega,m,by rw [e];simp,hw,m,by rw [e];simp,rfl⟩
theorem cRemove_two {c:Config} (n:Int):(cRemove c n).2≠0∨Nx c (cRemove c n).1:=by
  unfold cRemove
  split
  · exact .inl (by decide)
  · split
    · exact .inl (by decide)
    · rcases cNext_two c (c.members.take (atG 0 c.members n).toNat ++ c.members.drop ((atG 0 c.members n).toNat + 1)) with h1|⟨h1,h2⟩
      · exact .inl h1
      · right
        rw [h1]
        obtain ⟨m,l,e,hw⟩:=mayC_head h2
        dsimp only at e
        have hm:m∈c.members:=by
          have:m∈c.members.take (atG 0 c.members n).toNat ++ c.members.drop ((atG 0 c.members n).toNat + 1):=by rw [e];simp
          rcases List.mem_append.1 this with h3|h3
          · exact List.mem_of_mem_take h3
          · exact List.mem_of_mem_drop h3
        exact ⟨h2,by dsimp only;omega,by dsimp only;omega,m,hm,hw,m,by dsimp only;rw [e];simp,rfl⟩
theorem atG_nodes:∀ {l l':List Member} {k:Nat} {n:Int},l.map (·.node)=l'.map (·.node)→atG k l n=atG k l' n
  | [],[],_,_,_=>rfl
  | [],_ :: _,_,_,h=>by simp at h
  | _ :: _,[],_,_,h=>by simp at h
  | m :: l,m' :: l',k,n,h=>by
    simp only [List.map_cons,List.cons.injEq] at h
    unfold atG
    rw [h.1,atG_nodes h.2]
theorem mayL_cong {c d:Config} (he:d.epoch=c.epoch) (hl:d.members.length=c.members.length) (hn:d.members.map (·.node)=c.members.map (·.node)):∀ (l l':List Member) (i:Nat),l.length=l'.length →
    (∀ (j:Nat) (m m':Member),l[j]? = some m→l'[j]? = some m'→m'.node=m.node∧m'.since=m.since∧(m.whole=true→m'.whole=true))→mayL c i l=true→mayL d i l'=true
  | [],[],_,_,_,_=>rfl
  | [],_ :: _,_,h,_,_=>by simp at h
  | _ :: _,[],_,h,_,_=>by simp at h
  | m :: l,m' :: l',i,hlen,h,hm=>by
    obtain ⟨h1,h2,h3⟩:=h 0 m m' rfl rfl
    simp only [mayL,Bool.and_eq_true] at hm ⊢
    refine ⟨?_,mayL_cong he hl hn l l' (i + 1) (by simpa using hlen) (fun j a b ha hb=>h (j + 1) a b (by simpa using ha) (by simpa using hb)) hm.2⟩
    have h4:=hm.1
    unfold okM at h4 ⊢
    rw [h1,h2,he,hl,atG_nodes (l:=d.members.take i) (l':=c.members.take i) (by rw [List.map_take,List.map_take,hn])]
    simp only [Bool.and_eq_true,Bool.or_eq_true] at h4 ⊢
    exact ⟨h4.1,h4.2.imp h3 id⟩
theorem cWhole_nx {c:Config} (h:mayC c=true) (n since:Int):Nx c (cWhole c n since).1:=by
  unfold cWhole
  split
  · rename_i m hm
    split
    · rename_i hc
      obtain ⟨a,l,e,hw⟩:=mayC_head h
      generalize (atG 0 c.members n).toNat=k at *
      have hk:k < c.members.length:=(List.getElem?_eq_some_iff.1 hm).1
      have hmk:c.members[k]=m:=(List.getElem?_eq_some_iff.1 hm).2
      have hn:(c.members.set k ⟨m.node,m.since,true⟩).map (·.node)=c.members.map (·.node):=by
        rw [List.map_set]
        apply List.ext_getElem (by simp)
        intro i h1 h2
        rw [List.getElem_set]
        split
        · rename_i hi;subst hi;simp [hmk]
        · rfl
      refine ⟨?_,Int.le_refl _,by dsimp only;omega,a,by rw [e];simp,hw,?_⟩
      · simp only [mayC,Bool.and_eq_true,decide_eq_true_eq,List.length_set] at h ⊢
        refine ⟨h.1,mayL_cong (c:=c) (d:=⟨c.epoch,c.members.set k ⟨m.node,m.since,true⟩⟩) rfl (by simp) hn _ _ 0 (by simp) (fun j x y hx hy=>?_) h.2⟩
        rw [List.getElem?_set] at hy
        split at hy
        · rename_i hj
          subst hj
          injection hy with hy;subst hy
          rw [hm] at hx;injection hx with hx;subst hx
          exact ⟨rfl,rfl,fun _=>rfl⟩
        · rw [hx] at hy;injection hy with hy;subst hy
          exact ⟨rfl,rfl,fun h=>h⟩
      · have h0:a.node∈(c.members.set k ⟨m.node,m.since,true⟩).map (·.node):=by rw [hn,e];simp
        obtain ⟨m',h1,h2⟩:=List.mem_map.1 h0
        exact ⟨m',h1,h2⟩
    · exact Nx.refl h
  · exact Nx.refl h
theorem tell_cfg (x:Mst) (who:List Int):(tellS x who).2.cfg=x.cfg∧(tellS x who).2.ends.wins=x.ends.wins:=by
  have key:∀ (body:List UInt8) (ep:Int) (who:List Int) (p:List (List UInt8)×Ends),(who.foldl (eachS body ep) p).2.wins=p.2.wins:=by
    intro body ep who
    induction who with
    | nil=>intro p;rfl
    | cons a l ih=>intro p;rw [List.foldl_cons,ih];unfold eachS;exact (send_keep _ _ _ _).2.2.2
  unfold tellS
  split
  · exact ⟨rfl,key _ _ _ _⟩
  · exact ⟨rfl,rfl⟩
theorem tick_keep {x:Mst} {n:Int} (hn:0≤n) (h:x.ends.fit n):x.tick.2.cfg=x.cfg∧x.tick.2.ends.root=x.ends.root∧x.tick.2.ends.fit (n + 6)∧x.tick.2.ends.wins=x.ends.wins:=by
  refine ⟨(tell_cfg x all6).1,?_,?_,(tell_cfg x all6).2⟩
  · unfold Mst.tick tellS
    split
    · exact (fold_keep _ _ _ _ n hn h).2.1
    · rfl
  · unfold Mst.tick tellS
    split
    · exact (fold_keep _ _ _ _ n hn h).1
    · exact fun s=>⟨(h s).1,Int.le_trans (h s).2 (by omega)⟩
theorem fit_up {x:Ends} {n m:Int} (h:x.fit n) (hm:n≤m):x.fit m:=fun s=>⟨(h s).1,Int.le_trans (h s).2 hm⟩
theorem goes_keep {x:Mst} {n:Int} (hn:0≤n) (h:x.ends.fit n) (hm:mayC x.cfg=true) {r:Config×Int} (hr:r.2≠0∨Nx x.cfg r.1):Nx x.cfg (x.goes r).2.cfg∧(x.goes r).2.ends.root=x.ends.root∧(x.goes r).2.ends.fit (n + 6)∧(x.goes r).2.ends.wins=x.ends.wins:=by
  unfold Mst.goes
  split
  · rename_i h0
    have hr':Nx x.cfg r.1:=hr.elim (fun h=>absurd h0 h) id
    obtain ⟨h1,h2,h3,h4⟩:=tick_keep (x:={ x with cfg:=r.1 }) hn h
    exact ⟨by rw [h1];exact hr',h2,h3,h4⟩
  · exact ⟨Nx.refl hm,rfl,fit_up h (by omega),rfl⟩
theorem get_all {x:Mst} {n:Int} (b:List UInt8) (h:x.ends.fit n) (hw:∀ q∈x.ends.wins,q.2.ok) (hm:mayC x.cfg=true):Nx x.cfg (x.get b).2.cfg∧(x.get b).2.ends.root=x.ends.root∧(x.get b).2.ends.fit n∧∀ q∈(x.get b).2.ends.wins,q.2.ok:=by
  obtain ⟨k1,k2,k3,k4⟩:=get_keep x.ends b
  have hw2:=get_wok b hw
  have hf:(x.ends.get b).2.fit n:=fun s=>by rw [k4];exact h s
  unfold Mst.get
  dsimp only
  split
  · exact ⟨Nx.refl hm,k1,hf,hw2⟩
  · split
    · exact ⟨Nx.refl hm,k1,hf,hw2⟩
    · exact ⟨cWhole_nx hm _ _,k1,hf,hw2⟩
theorem Mi.ask {root:List UInt8} {x:Mst} {L:List Ends} {i:Nat} (h:Mi root x L i) (a:Aa):Mi root (askS x L a).2.1 (askS x L a).2.2 (i + 1)∧Nx x.cfg (askS x L a).2.1.cfg∧(askS x L a).2.2.length=L.length:=by
  have hl:∀ e∈L,e.root=root∧e.fit ((i + 1:Nat):Int):=fun e he=>⟨(h.l e he).1,fit_up (h.l e he).2 (by omega)⟩
  have h6:(6:Int) * (i:Nat) + 6≤6 * ((i + 1:Nat):Int):=by omega
  have tk:∀ y:Mst,Nx x.cfg y.cfg→y.ends.root=x.ends.root→y.ends.fit (6 * (i:Nat) + 6)→(∀ q∈y.ends.wins,q.2.ok)→∀ L':List Ends,(∀ e∈L',e.root=root∧e.fit ((i + 1:Nat):Int))→L'.length=L.length→Mi root y L' (i + 1)∧Nx x.cfg y.cfg∧L'.length=L.length:=fun y h1 h2 h3 h4 L' h5 h7=>
    ⟨⟨h1.may,h2.trans h.xr,fit_up h3 h6,h4,h5⟩,h1,h7⟩
  unfold askS
  split
  · obtain ⟨h1,h2,h3,h4⟩:=tick_keep (x:=x) (by omega) h.xf
    exact tk _ (by rw [h1];exact Nx.refl h.may) h2 h3 (by rw [h4];exact h.xw) L hl rfl
  · obtain ⟨h1,h2,h3,h4⟩:=goes_keep (x:=x) (by omega) h.xf h.may (cAdd_two h.may a.n)
    exact tk _ h1 h2 h3 (by rw [h4];exact h.xw) L hl rfl
  · obtain ⟨h1,h2,h3,h4⟩:=goes_keep (x:=x) (by omega) h.xf h.may (cRemove_two (c:=x.cfg) a.n)
    exact tk _ h1 h2 h3 (by rw [h4];exact h.xw) L hl rfl
  · split
    · rename_i e he
      split
      · obtain ⟨h1,h2,h3,h4⟩:=get_all (x:=x) (mwholeS e x.cfg.epoch (whoM x a.n).since).1 h.xf h.xw h.may
        refine tk _ h1 h2 (fit_up h3 (by omega)) h4 _ (fun e' he'=>?_) (by simp)
        rcases List.mem_or_eq_of_mem_set he' with h5|rfl
        · exact hl e' h5
        · have h5:=h.l e (List.mem_of_getElem? he)
          refine ⟨(send_keep _ _ _ _).1.trans h5.1,?_⟩
          have:=fit_send h5.2 9 x.cfg.epoch (printS (wholeMsg (whoM x a.n).since)).1 (by omega)
          exact fit_up this (by omega)
      · exact tk _ (Nx.refl h.may) rfl (fit_up h.xf (by omega)) h.xw L hl rfl
    · exact tk _ (Nx.refl h.may) rfl (fit_up h.xf (by omega)) h.xw L hl rfl
  · obtain ⟨h1,h2,h3,h4⟩:=get_all (x:=x) a.bytes h.xf h.xw h.may
    exact tk _ h1 h2 (fit_up h3 (by omega)) h4 L hl rfl
end Go.Proofs.YtmgneincjfhaoaaGreat

namespace Go.Proofs.YtmgneincjfhaoaaGreat
set_option linter.unusedVariables false
set_option linter.unusedSimpArgs false
open Go.RowKit Go.ChangeShapes Go.WideShapes Go.ChangeAt Go.Deep
set_option maxRecDepth 100000
/-! bulk -/
theorem bulk_one {H:Type} (d:DataW H):1≤Rows.uptoBulk d:=by
  cases d with
  | lit l=>cases l<;>simp [Rows.uptoBulk]
  | _=>simp [Rows.uptoBulk]
theorem bulk_part {H:Type} {d:DataW H} {l:List (DataW H)} (h:d∈l):Rows.uptoBulk d≤Rows.uptoBulkAll l:=by
  induction l with
  | nil=>cases h
  | cons x r ih=>
    simp only [Rows.uptoBulkAll]
    cases List.mem_cons.1 h with
    | inl e=>subst e;omega
    | inr e=>have:=ih e;omega
theorem bulk_length {H:Type} (l:List (DataW H)):l.length≤Rows.uptoBulkAll l:=by
  induction l with
  | nil=>simp [Rows.uptoBulkAll]
  | cons x r ih=>have:=bulk_one x;simp only [Rows.uptoBulkAll,List.length_cons];omega
/-- what reads as data of a type is k cells of my data; N: its bulk -/
def OA (P:Program) (t:TypeId) (k:Nat) {α:Type} (ok:Nat→α→Prop) (e:α→List AV):Prop:=
  P.cellsOf t=k∧(∀ m n d,m≤n→ok m d→ok n d)∧∀ {H:Type} {enc:TypeId×Value→H} {w:World} {base:Nat} {fuel:Nat} {cs:List Value} {x:DataW H×List MemPlace},
    DataW.trod enc P w base (fun _=>true) true fuel t cs=some x→∃ d:α,ok (Rows.uptoBulk x.1) d∧(∀ φ κ,RC w φ κ (fun b=>b < w.heap.size) (e d) cs Ct.z)∧(∀ u∈cs,u.oneCell'=true)∧(∀ a∈e d,a.leaf=true)∧cs.length=k
section
variable {P:Program} {t e:TypeId} {α β:Type} {ok:Nat→α→Prop} {k:Nat} {en:α→List AV}
theorem OA.map (h:OA P t k ok en) (f:α→β) {ok':Nat→β→Prop} {en':β→List AV} (hm:∀ m n d,m≤n→ok' m d→ok' n d) (h1:∀ n a,ok n a→ok' n (f a)) (h2:∀ a,en' (f a)=en a):OA P t k ok' en':=
  ⟨h.1,hm,fun hx=>by
    obtain ⟨d,a,b,c⟩:=h.2.2 hx
    exact ⟨f d,h1 _ _ a,by rw [h2];exact b,by rw [h2];exact c⟩⟩
theorem OA.wmap (h:OA P t k ok en) (f:α→β) {ok':Nat→β→Prop} {en':β→List AV} (hm:∀ m n d,m≤n→ok' m d→ok' n d) (h1:∀ n a,ok n a→ok' n (f a)) (h2:∀ n a,ok n a→en' (f a)=en a):OA P t k ok' en':=
  ⟨h.1,hm,fun hx=>by
    obtain ⟨d,a,b,c⟩:=h.2.2 hx
    exact ⟨f d,h1 _ _ a,by rw [h2 _ _ a];exact b,by rw [h2 _ _ a];exact c⟩⟩
theorem RC.one_ {w:World} {φ:Fi} {κ:Ka} {R:Nat→Prop} {a:AV} {v:Value} (h:RV w φ κ R a v Ct.z):RC w φ κ R [a] [v] Ct.z:=.cons (S:=Ct.z) (T:=Ct.z) h .nil fun _=>rfl
theorem oa_int {κ:IntKind} (ht:P.underlying t=some (.int κ)) (hc:P.cellsOf t=1):OA P t 1 (fun _ (n:Int)=>(Lit.int κ n).wf=true) (fun n=>[.sc (.int κ n)]):=
  ⟨hc,fun _ _ _ _ h=>h,fun h=>by
    obtain ⟨n,rfl,_,hw⟩:=DataW.trod_int ht h
    exact ⟨n,hw,fun _ _=>RC.one_ (.sc rfl),fun u hu=>by simp at hu;subst hu;rfl,fun a ha=>by simp at ha;subst ha;rfl,rfl⟩⟩
theorem RE.of_rows {w:World} {φ:Fi} {κ:Ka} {R:Nat→Prop} {k:Nat} {en:α→List AV} {l:List α} (css:Nat→List Value) (h:∀ i x,l[i]? = some x→RC w φ κ R (en x) (css i) Ct.z∧(∀ u∈css i,u.oneCell'=true)∧(∀ a∈en x,a.leaf=true)∧(css i).length=k) :
    RE w φ κ R k (l.map en) ((List.range l.length).flatMap css) Ct.z:=by
  induction l generalizing css with
  | nil=>exact .nil
  | cons x l ih=>
    have h0:=h 0 x rfl
    have h1:=ih (fun i=>css (i + 1)) fun i y hy=>h (i + 1) y (by simpa using hy)
    rw [List.length_cons,List.range_succ_eq_map,List.flatMap_cons,List.flatMap_map]
    exact .cons (S:=Ct.z) (T:=Ct.z) h0.1 h0.2.2.2 ⟨h0.2.1,h0.2.2.1⟩ h1 fun _=>rfl
theorem flat_at {css:Nat→List Value} {k n:Nat} (h:∀ i,i < n→(css i).length=k):∀ {j:Nat} {u:Value},((List.range n).flatMap css)[j]? = some u→∃ i r,i < n∧j=i * k + r∧(css i)[r]? = some u:=by
  induction n generalizing css with
  | zero=>intro j u hj;simp at hj
  | succ n ih=>
    intro j u hj
    rw [List.range_succ_eq_map,List.flatMap_cons,List.flatMap_map] at hj
    have h0:=h 0 (by omega)
    by_cases hjk:j < k
    · rw [List.getElem?_append_left (by omega)] at hj
      exact ⟨0,j,by omega,by omega,hj⟩
    · rw [List.getElem?_append_right (by omega)] at hj
      obtain ⟨i,r,hi,hr,hu⟩:=ih (css:=fun i=>css (i + 1)) (fun i hi=>h (i + 1) (by omega)) hj
      refine ⟨i + 1,r,by omega,?_,hu⟩
      rw [Nat.add_mul];omega
theorem spot_none {w:World} {a:Addr} {u:Value} (h:w.cell? (a.add 0)=some u):a.spot=none:=by
  obtain ⟨ab,ao,asp⟩:=a
  cases hsp:asp with
  | none=>rfl
  | some s=>
    rw [hsp] at h
    simp [Addr.add,World.cell?] at h
    split at h<;>simp at h
theorem oa_slice (hk:0 < k) (ht:P.underlying t=some (.slice e)) (hc:P.cellsOf t=1) (hE:OA P e k ok en):OA P t 1 (fun N (l:List α)=>(∀ x∈l,ok N x)∧l.length < N) (fun l=>[.sl none k (l.map en)]):=by
  refine ⟨hc,fun m n d h k=>⟨fun x hx=>hE.2.1 _ _ _ h (k.1 x hx),Nat.lt_of_lt_of_le k.2 h⟩,?_⟩
  intro H enc w base fuel cs x h
  rcases open_slice ht h with ⟨rfl,rfl⟩|⟨a,len,cap,m,n,D,Pl,rfl,hb,hl,hm,hmm,hx,hi⟩
  · exact ⟨[],⟨fun x hx=>by simp at hx,by simp [Rows.uptoBulk]⟩,fun _ _=>RC.one_ .ni,fun u hu=>by simp at hu;subst hu;rfl,fun a ha=>by simp at ha;subst ha;rfl,rfl⟩
  · obtain rfl:m=cap:=by simpa using hmm
    clear hmm
    have hbulk:∀ i,i < len→Rows.uptoBulk (D i)≤Rows.uptoBulk x.1:=by
      intro i hi
      rw [hx]
      have:=bulk_part (d:=D i) (l:=(List.range len).map D) (List.mem_map.2 ⟨i,List.mem_range.2 hi,rfl⟩)
      simp only [Rows.uptoBulk]
      omega
    have hlenb:len < Rows.uptoBulk x.1:=by
      rw [hx]
      have:=bulk_length ((List.range len).map D)
      simp only [Rows.uptoBulk]
      simp only [List.length_map,List.length_range] at this
      omega
    have hall:∀ i,i < len→∃ (d:α) (cs':List Value),(ok (Rows.uptoBulk x.1) d∧(∀ φ κ,RC w φ κ (fun b=>b < w.heap.size) (en d) cs' Ct.z)∧(∀ u∈cs',u.oneCell'=true)∧(∀ a∈en d,a.leaf=true)∧cs'.length=k)∧∀ j u,cs'[j]? = some u→w.cell? ((a.add (i * k)).add j)=some u:=by
      intro i hil
      obtain ⟨cs',hcs,htr⟩:=hi i (by omega)
      obtain ⟨d,hd0,hd⟩:=hE.2.2 htr
      rw [hE.1] at hcs
      obtain ⟨_,hlen,hat⟩:=World.cells?_some hcs
      exact ⟨d,cs',⟨hE.2.1 _ _ _ (hbulk i hil) hd0,hd⟩,fun j u hu=>(hat j (by have:=(List.getElem?_eq_some_iff.1 hu).1;omega)).trans hu⟩
    have hsp0:0 < m→a.spot=none:=by
      intro h0
      obtain ⟨cs',hcs,_⟩:=hi 0 h0
      rw [hE.1] at hcs
      obtain ⟨_,hlen,hat⟩:=World.cells?_some hcs
      have hz:=hat 0 (by omega)
      rw [List.getElem?_eq_getElem (by omega)] at hz
      have e0:a.add (0 * k)=a:=by simp [Addr.add]
      rw [e0] at hz
      exact spot_none hz
    have hex:∃ (l:List α) (css:Nat→List Value),l.length=len∧∀ i y,l[i]? = some y→(ok (Rows.uptoBulk x.1) y∧(∀ φ κ,RC w φ κ (fun b=>b < w.heap.size) (en y) (css i) Ct.z)∧(∀ u∈css i,u.oneCell'=true)∧(∀ a∈en y,a.leaf=true)∧(css i).length=k)∧∀ j u,(css i)[j]? = some u→w.cell? ((a.add (i * k)).add j)=some u:=by
      clear hi hbulk hlenb h hx
      revert hall
      clear hl
      induction len with
      | zero=>exact fun _=>⟨[],fun _=>[],rfl,fun i x h=>by simp at h⟩
      | succ q ih=>
        intro hall
        obtain ⟨l,css,hl,hq⟩:=ih (fun i hi=>hall i (by omega))
        obtain ⟨d,cs',hd,hcs⟩:=hall q (by omega)
        refine ⟨l ++ [d],fun i=>if i=q then cs' else css i,by simp [hl],fun i x hx=>?_⟩
        by_cases hik:i < q
        · rw [List.getElem?_append_left (by omega)] at hx
          simp only [show i≠q by omega,if_false]
          exact hq i x hx
        · have hik':i=q:=by have:=(List.getElem?_eq_some_iff.1 hx).1;simp at this;omega
          subst hik'
          rw [List.getElem?_append_right (by omega),hl] at hx
          simp at hx
          subst hx
          simp only [if_true]
          exact ⟨hd,hcs⟩
    obtain ⟨l,css,hll,hq⟩:=hex
    refine ⟨l,⟨fun y hy=>?_,by omega⟩,fun φ κ=>?_,fun u hu=>by simp at hu;subst hu;rfl,fun a ha=>by simp at ha;subst ha;rfl,rfl⟩
    · obtain ⟨i,hi,rfl⟩:=List.mem_iff_getElem.1 hy
      exact (hq i _ (List.getElem?_eq_getElem hi)).1.1
    · refine RC.one_ ?_
      subst hll
      by_cases h0:m=0
      · subst h0
        obtain rfl:l=[]:=List.eq_nil_of_length_eq_zero (by omega)
        exact .ne
      · obtain ⟨ab,ao,asp⟩:=a
        have hspn:=hsp0 (by omega)
        simp only at hspn
        subst hspn
        have hflat:∀ j u,((List.range l.length).flatMap css)[j]? = some u→w.cell? ⟨ab,ao + j,none⟩=some u:=by
          intro j u hj
          obtain ⟨i,r,hi,rfl,hu⟩:=flat_at (k:=k) (fun i hi=>(hq i _ (List.getElem?_eq_getElem hi)).1.2.2.2.2) hj
          have:=(hq i _ (List.getElem?_eq_getElem hi)).2 r u hu
          have e1:(Addr.add (Addr.add ⟨ab,ao,none⟩ (i * k)) r)=⟨ab,ao + (i * k + r),none⟩:=by
            unfold Addr.add
            split<;>split<;>simp_all [Nat.add_assoc]
          rw [e1] at this
          exact this
        have hE':RE w φ κ (fun b=>b < w.heap.size) k (l.map en) ((List.range l.length).flatMap css) Ct.z:=RE.of_rows css fun i x hx=>⟨(hq i x hx).1.2.1 φ κ,(hq i x hx).1.2.2⟩
        have:=RV.ro (c:=m) (b:=ab) (o:=ao) hE' (by simp;omega) hm (fun hne=>by
          have hl0:0 < l.length:=by cases l with
            | nil=>exact absurd rfl hne
            | cons _ _=>simp
          have hc0:=(hq 0 _ (List.getElem?_eq_getElem hl0)).1.2.2.2.2
          have hz:=(hq 0 _ (List.getElem?_eq_getElem hl0)).2 0 _ (List.getElem?_eq_getElem (by omega))
          simp only [Addr.add,Nat.zero_mul,if_true,World.cell?] at hz
          cases hh:w.heap[ab]? with
          | none=>simp [hh] at hz
          | some o=>exact (Array.getElem?_eq_some_iff.1 hh).1) hflat
        simpa using this
/-- fields from an offset on -/
def OFs (P:Program) (fs:List Field) (off k:Nat) {α:Type} (ok:Nat→α→Prop) (e:α→List AV):Prop:=
  (∀ m n d,m≤n→ok m d→ok n d)∧∀ {H:Type} {enc:TypeId×Value→H} {w:World} {base:Nat} {cs:List Value} {N:Nat},
    (∀ f∈fs,∃ n y,DataW.trod enc P w base (fun _=>true) true n f.type ((cs.drop f.offset).take (P.cellsOf f.type))=some y∧Rows.uptoBulk y.1≤N)→off + k≤cs.length →
    ∃ d:α,ok N d∧(∀ φ κ,RC w φ κ (fun b=>b < w.heap.size) (e d) ((cs.drop off).take k) Ct.z)∧(∀ u∈(cs.drop off).take k,u.oneCell'=true)∧(∀ a∈e d,a.leaf=true)
theorem of_nil {off:Nat}:OFs P [] off 0 (fun _ (_:Unit)=>True) (fun _=>[]):=
  ⟨fun _ _ _ _ _=>trivial,fun {H enc w base cs N} _ _=>⟨(),trivial,fun φ κ=>by simp;exact .nil,fun u hu=>by simp at hu,fun a ha=>by cases ha⟩⟩
theorem of_cons {f:Field} {fs:List Field} {off k2:Nat} {ok2:Nat→β→Prop} {en2:β→List AV} (hoff:f.offset=off) (h1:OA P f.type k ok en) (h2:OFs P fs (off + k) k2 ok2 en2) :
    OFs P (f :: fs) off (k + k2) (fun N (d:α×β)=>ok N d.1∧ok2 N d.2) (fun d=>en d.1 ++ en2 d.2):=
  ⟨fun m n d h k=>⟨h1.2.1 _ _ _ h k.1,h2.1 _ _ _ h k.2⟩,fun {H enc w base cs N} hf hl=>by
    subst hoff
    obtain ⟨n,y,hy,hyb⟩:=hf f (by simp)
    rw [h1.1] at hy
    obtain ⟨a,a1,a2,a3,a4,a5⟩:=h1.2.2 hy
    obtain ⟨b,b1,b2,b3,b4⟩:=h2.2 (cs:=cs) (N:=N) (fun g hg=>hf g (by simp [hg])) (by omega)
    have e0:(cs.drop f.offset).take (k + k2)=(cs.drop f.offset).take k ++ (cs.drop (f.offset + k)).take k2:=by
      rw [List.take_add,List.drop_drop]
    refine ⟨(a,b),⟨h1.2.1 _ _ _ hyb a1,b1⟩,fun φ κ=>?_,fun u hu=>?_,fun x hx=>?_⟩
    · rw [e0];exact (a2 φ κ).append (b2 φ κ) fun _=>rfl
    · rw [e0] at hu;exact (List.mem_append.1 hu).elim (a3 u) (b3 u)
    · exact (List.mem_append.1 hx).elim (a4 x) (b4 x)⟩
theorem oa_struct {fs:Array Field} (ht:P.underlying t=some (.struct fs)) (hc:P.cellsOf t=k) (h:OFs P fs.toList 0 k ok en):OA P t k ok en:=
  ⟨hc,h.1,fun {H enc w base fuel cs x} hx=>by
    obtain ⟨xs,n,_,hxx,hl,hn,hg⟩:=DataW.trod_struct ht hx
    obtain ⟨d,d1,d2,d3,d4⟩:=h.2 (cs:=cs) (N:=Rows.uptoBulk x.1) (fun f hf=>by
      obtain ⟨i,hi,rfl⟩:=List.mem_iff_getElem.1 hf
      have hi':i < fs.size:=by simpa using hi
      have:=hg i (fs.toList[i]) (by simp [hi'])
      rw [List.getElem?_eq_getElem (by omega)] at this
      refine ⟨n,_,this,?_⟩
      have hb:=bulk_part (d:=(xs[i]'(by omega)).1) (l:=xs.map (·.1)) (List.mem_map.2 ⟨_,List.getElem_mem _,rfl⟩)
      rw [hxx]
      simp only [Rows.uptoBulk]
      omega) (by omega)
    rw [hc] at hl
    have e0:(cs.drop 0).take k=cs:=by rw [List.drop_zero];exact List.take_of_length_le (by omega)
    rw [e0] at d2 d3
    exact ⟨d,d1,d2,d3,d4,hl⟩⟩
/-! arguments -/
variable {H:Type} {enc:TypeId×Value→H} {w:World} {base b0:Nat} {r:Reach} {v:Value} {d:DataW H} {p:List MemPlace}
theorem arg_1 {f:α→AV} (hE:OA P t 1 ok (fun x=>[f x])) (hv:v.cells.toList=[v]) (h:DataW.Trod enc P w base (fun _=>true) true t v d p) :
    ∃ x,ok (Rows.uptoBulk d) x∧∀ φ κ,RV w φ κ (fun b=>b < w.heap.size) (f x) v Ct.z:=by
  obtain ⟨fuel,hf⟩:=h
  obtain ⟨x,x1,x2,x3,_⟩:=hE.2.2 hf
  refine ⟨x,x1,fun φ κ=>?_⟩
  have h1:=x2 φ κ
  rw [hv] at h1
  cases h1 with
  | cons a b c=>obtain ⟨rfl,rfl⟩:=Ct.split c;exact a
theorem cells_slice (ht:P.underlying t=some (.slice e)) (hv:Value.okWide P w r b0 t v):v.cells.toList=[v]:=by
  unfold Value.okWide at hv
  rw [ht] at hv
  cases v with
  | agg cs=>simp only [Cell.okWide,ht] at hv;simp [Cell.ok,ht] at hv
  | tuple cs=>simp only [Cell.okWide,ht] at hv;simp [Cell.ok,ht] at hv
  | _=>rfl
theorem cells_int {κ:IntKind} (ht:P.underlying t=some (.int κ)) (hv:Value.okWide P w r b0 t v):v.cells.toList=[v]:=by
  unfold Value.okWide at hv
  rw [ht] at hv
  cases v with
  | agg cs=>simp only [Cell.okWide,ht] at hv;simp [Cell.ok,ht] at hv
  | tuple cs=>simp only [Cell.okWide,ht] at hv;simp [Cell.ok,ht] at hv
  | _=>rfl
/-! what was there reads as it did -/
theorem trodAll_below (hl:laidOutB P=true) {W W':World} (hb:Below W.heap.size W W') :
    ∀ (ts:List TypeId) (vs:List Value) (ds:List (DataW H)) (ps:List MemPlace),(∀ t∈ts,P.readableRec t=true∧t < P.types.size)→(∀ x∈ps,x.block < W.heap.size) →
      DataW.TrodAll enc P W 0 (fun _=>true) true ts vs ds ps→DataW.TrodAll enc P W' 0 (fun b=>decide (b < W.heap.size)) true ts vs ds ps
  | [],[],[],ps,_,_,h=>h
  | t :: ts,v :: vs,d :: ds,ps,hr,hlt,h=>by
    obtain ⟨p,q,hd,hs,rfl⟩:=h
    have hrt:=hr t (by simp)
    exact ⟨p,q,Below.trod hl hrt.1 hrt.2 hd hb fun x hx=>hlt x (by simp [hx]),trodAll_below hl hb ts vs ds q (fun t ht=>hr t (by simp [ht])) (fun x hx=>hlt x (by simp [hx])) hs,rfl⟩
  | [],_ :: _,_,_,_,_,h=>by simp [DataW.TrodAll] at h
  | [],[],_ :: _,_,_,_,h=>by simp [DataW.TrodAll] at h
  | _ :: _,[],_,_,_,_,h=>by simp [DataW.TrodAll] at h
  | _ :: _,_ :: _,[],_,_,_,h=>by simp [DataW.TrodAll] at h
/-- THE LAST STEP: the law returns true and leaves alone what was there -/
theorem law_post {f:Func} {s:ChangeSpec} {apart fresh handsOn:Bool} {W W':World} {args:Array Value} {ds gs:List (DataW H)} {before:List MemPlace} {tb:TypeId}
    (hl:laidOutB P=true) (hv:s.vars=[]) (hrt:f.resultTypes=#[tb]) (hub:P.underlying tb=some .bool) (hread:(f.params.toList.all fun t=>P.readableRec t && decide (t < P.types.size))=true)
    (hW:DataW.Whole enc P f.params.toList s.vars apart W args.toList ds gs before) (hfn:∀ gs',gs'=[]→s.fn H (ds ++ gs')={ results:=[.lit (.bool true)],args:=ds }) (hb:Below W.heap.size W W') :
    s.post enc P f apart fresh handsOn false W args (.bool true) W':=by
  have hread':∀ t∈f.params.toList,P.readableRec t=true∧t < P.types.size:=fun t ht=>by
    have:=List.all_eq_true.1 hread t ht
    simpa using this
  have hW':=hW
  obtain ⟨p,q,hA,hV,rfl,hfz,hnd⟩:=hW
  rw [hv] at hV
  obtain ⟨rfl,rfl⟩:=trodVars_none hV
  have hlt:∀ x∈p,x.block < W.heap.size:=fun x hx=>hW'.lt x (by simpa using hx)
  refine ⟨ds,[],p ++ [],[],p,[],hW',?_,?_,?_,?_,fun h=>by cases h⟩
  · rw [hfn [] rfl,hrt]
    exact trodAll_mk1 (shut_bool hub true)
  · rw [hfn [] rfl]
    exact trodAll_below hl hb _ _ _ _ hread' hlt hA
  · rw [hv,hfn [] rfl]
    rfl
  · refine World.keptBut_mono (fun x hx=>⟨hx,.inr (.inl (by simpa using hx))⟩) (hb.frame (·∈p ++ []))
/-- a contract that tells true, in the world that the law is called in -/
theorem ac_law {fn:Nat} {args:List AV} {vs:List Value} {W:World} (h:AC P fn args [] (fun v bs'=>v=.sc (.bool true)∧bs'=[])) (ha:∀ φ κ,RC W φ κ (fun b=>b < W.heap.size) args vs Ct.z) :
    Calls P fn vs.toArray W fun e W'=>e=.returned (.bool true)∧Below W.heap.size W W':=by
  refine (h.2 W (fun _ _=>none) (fun _ _=>none) _ vs [] Ct.z Ct.z (ha _ _) .nil (fun i g B hi=>by simp at hi) (fun _ _ _=>rfl) (fun _ _ _=>rfl) (fun x=>by simp [Ct.z]) (fun x hx=>by simp [Ct.z] at hx) (fun x hx=>⟨hx,rfl⟩)).mono ?_
  rintro e W' ⟨v,r,bs',gs',Sr,Sb',φ',F,rfl,⟨rfl,rfl⟩,hr,_,_,_,_,_,_,hf⟩
  cases hr with
  | sc=>exact ⟨rfl,hf.os,hf.tape,hf.output,hf.size,fun b hb=>hf.block b hb rfl⟩
theorem bulk_of {l:List (DataW H)} (hk:Rows.uptoSmall H l=true):Rows.uptoBulkAll l≤1048576:=of_decide_eq_true hk
end
end Go.Proofs.YtmgneincjfhaoaaGreat

namespace Go.Proofs.YtmgneincjfhaoaaGreat
set_option linter.unusedVariables false
set_option linter.unusedSimpArgs false
open Go.RowKit Go.ChangeShapes Go.WideShapes Go.ChangeAt Go.Deep
set_option maxRecDepth 100000
theorem laidOut:laidOutB Tryz.prog=true:=by kernel_rfl
theorem own_knob:ownKnob Tryz.prog.godebug=none:=by kernel_rfl
def I64 (x:Int):Prop:=-9223372036854775808≤x∧x≤9223372036854775807
theorem i64_of {x:Int} (h:(Lit.int .i64 x).wf=true):I64 x:=by simpa [Lit.wf,IntKind.min,IntKind.max,IntKind.signed,IntKind.bits,I64] using h
theorem u8_of {x:Int} (h:(Lit.int .u8 x).wf=true):0≤x∧x≤255:=by simpa [Lit.wf,IntKind.min,IntKind.max,IntKind.signed,IntKind.bits] using h
theorem oi:OA Tryz.prog 3 1 (fun _ x=>I64 x) (fun x=>[I x]):=(oa_int Tryz.underlying3 (by kernel_rfl)).map id (fun _ _ _ _ h=>h) (fun _ _ h=>i64_of h) fun _=>rfl
theorem ou:OA Tryz.prog 5 1 (fun _ (_:UInt8)=>True) eB:=(oa_int Tryz.underlying5 (by kernel_rfl)).wmap (fun x:Int=>UInt8.ofNat x.toNat) (fun _ _ _ _ h=>h) (fun _ _ _=>trivial) fun n x hx=>by
  have h:=u8_of hx
  have e:((UInt8.ofNat x.toNat).toNat:Int)=x:=by rw [UInt8.toNat_ofNat'];omega
  simp only [eB,U,e]
theorem obs:OA Tryz.prog 22 1 (fun N (l:List UInt8)=>(∀ x∈l,True)∧l.length < N) (fun l=>[bs none l]):=oa_slice (by decide) Tryz.underlying22 (by kernel_rfl) ou
end Go.Proofs.YtmgneincjfhaoaaGreat

namespace Go.Proofs.YtmgneincjfhaoaaGreat
set_option linter.unusedVariables false
set_option linter.unusedSimpArgs false
abbrev Rd:=Int×List UInt8
/-- a reader f reads what g writes, of what is ok; and what it reads is so written -/
structure Cod {α:Type} (f:Rd→α×Rd) (g:α→List UInt8) (ok:α→Prop):Prop where
  fwd:∀ a rest,ok a→f (0,g a ++ rest)=(a,(0,rest))
  bwd:∀ st,(f st).2.1=0→st.2=g (f st).1 ++ (f st).2.2∧ok (f st).1
  stk:∀ st,st.1≠0→(f st).2.1≠0
theorem Cod.zero {α:Type} {f:Rd→α×Rd} {g:α→List UInt8} {ok:α→Prop} (h:Cod f g ok) {st:Rd} (h0:(f st).2.1=0):st.1=0:=by
  by_cases h1:st.1=0
  · exact h1
  · exact absurd h0 (h.stk st h1)
theorem foldl_be (l:List UInt8):∀ x:Nat,l.foldl (fun x c=>256 * x + c.toNat) x=x * 256 ^ l.length + beN l:=by
  induction l with
  | nil=>intro x;simp [beN]
  | cons c l ih=>
    intro x
    have h0:=ih (256 * 0 + c.toNat)
    rw [List.foldl_cons,ih]
    unfold beN at *
    rw [List.foldl_cons,h0,List.length_cons,Nat.pow_succ]
    rw [Nat.add_mul,Nat.mul_zero,Nat.zero_add]
    have:256 * x * 256 ^ l.length=x * (256 ^ l.length * 256):=by rw [Nat.mul_comm 256 x,Nat.mul_assoc,Nat.mul_comm 256]
    omega
theorem beN_cons (y:UInt8) (b:List UInt8):beN (y :: b)=y.toNat * 256 ^ b.length + beN b:=by
  have:=foldl_be b y.toNat
  simp only [beN,List.foldl_cons] at *
  rw [Nat.mul_zero,Nat.zero_add];exact this
theorem putS_mod (c x m:Nat):∀ n,n≤m→putS (c * 256 ^ m + x) n=putS x n
  | 0,_=>rfl
  | n + 1,h=>by
    rw [putS,putS,putS_mod c x m n (by omega)]
    congr 2
    have hm:c * 256 ^ m=256 ^ n * (256 * (c * 256 ^ (m - n - 1))):=by
      have h1:256 ^ m=256 ^ n * (256 * 256 ^ (m - n - 1)):=by rw [←Nat.pow_succ',←Nat.pow_add];congr 1;omega
      rw [h1,Nat.mul_left_comm,Nat.mul_left_comm c 256]
    rw [hm,Nat.mul_add_div (Nat.pow_pos (by omega)),Nat.mul_add_mod]
theorem putS_beN:∀ {n:Nat} {b:List UInt8},b.length=n→putS (beN b) n=b
  | 0,b,h=>by rw [List.length_eq_zero_iff.1 h];rfl
  | n + 1,[],h=>by simp at h
  | n + 1,y :: b,h=>by
    have hb:b.length=n:=by simpa using h
    have hlt:=beN_lt b
    rw [hb] at hlt
    rw [beN_cons,hb,putS,putS_mod _ _ _ n (Nat.le_refl _),putS_beN hb]
    congr 1
    rw [Nat.mul_comm,Nat.mul_add_div (Nat.pow_pos (by omega)),Nat.div_eq_of_lt hlt,Nat.add_zero,Nat.mod_eq_of_lt y.toNat_lt]
    simp
theorem beN_putS (x:Nat):∀ n,beN (putS x n)=x % 256 ^ n
  | 0=>by simp [putS,beN,Nat.mod_one]
  | n + 1=>by
    rw [putS,beN_cons,putS_length,beN_putS x n]
    have:(UInt8.ofNat (x / 256 ^ n % 256)).toNat=x / 256 ^ n % 256:=by simp
    rw [this,Nat.pow_succ,Nat.mod_mul,Nat.mul_comm,Nat.add_comm]
theorem toI_u (n:Int) (h:I64 n):toI (IntKind.u64.wrap n).toNat=n:=by
  unfold I64 at h
  simp [toI,IntKind.wrap,IntKind.bits,IntKind.signed];omega
theorem toI_in (x:Nat):I64 (toI x):=by
  simp [toI,I64,IntKind.wrap,IntKind.bits,IntKind.signed];omega
theorem intS_toI (x:Nat) (h:x < 2 ^ 64):intS (toI x)=putS x 8:=by
  have:(IntKind.u64.wrap (toI x)).toNat=x:=by simp [toI,IntKind.wrap,IntKind.bits,IntKind.signed];omega
  rw [intS,this]
theorem beN_intS (n:Int):beN (intS n)=(IntKind.u64.wrap n).toNat:=by
  rw [intS,beN_putS,Nat.mod_eq_of_lt]
  have:=wrap_u64_lt n
  simpa using this
/-- readers of so many bytes -/
theorem takeS_zero {α:Type} {z:α} {f:List UInt8→α×Bool} {n:Nat} {st:Rd} (h:(takeS z f n st).2.1=0) :
    st.1=0∧n≤st.2.length∧(f (st.2.take n)).2=true∧takeS z f n st=((f (st.2.take n)).1,(0,st.2.drop n)):=by
  unfold takeS at h ⊢
  split at h
  · rename_i h0;exact absurd h h0
  · rename_i h0
    split at h
    · simp at h
    · rename_i h1
      split at h
      · rename_i h2
        simp only [Int.toNat_natCast] at h2
        rw [if_neg h0,if_neg h1]
        simp only [Int.toNat_natCast]
        rw [if_pos h2]
        exact ⟨by simpa using h0,by omega,h2,rfl⟩
      · simp at h
theorem takeS_fwd {α:Type} {z:α} {f:List UInt8→α×Bool} {n:Nat} {b rest:List UInt8} (hb:b.length=n) (hf:(f b).2=true):takeS z f n (0,b ++ rest)=((f b).1,(0,rest)):=by
  subst hb
  unfold takeS
  rw [if_neg (by simp),if_neg (by simp;omega)]
  simp [hf]
theorem takeS_stk {α:Type} {z:α} {f:List UInt8→α×Bool} {n:Int} {st:Rd} (h:st.1≠0):(takeS z f n st).2.1≠0:=by
  unfold takeS;rw [if_pos h];exact h
theorem cod_int:Cod intR intS I64 where
  fwd a rest h:=by
    unfold intR
    have:=takeS_fwd (z:=(0:Int)) (f:=intG) (n:=8) (b:=intS a) (rest:=rest) (intS_length a) rfl
    rw [show ((8:Nat):Int)=8 from rfl] at this
    rw [this,intG,beN_intS,toI_u a h]
  bwd st h:=by
    obtain ⟨h1,h2,h3,h4⟩:=takeS_zero (n:=8) (f:=intG) (z:=(0:Int)) (st:=st) h
    have e:intR st=(toI (beN (st.2.take 8)),(0,st.2.drop 8)):=h4
    have hl:(st.2.take 8).length=8:=by simp;omega
    rw [e]
    refine ⟨?_,toI_in _⟩
    have hlt:=beN_lt (st.2.take 8)
    rw [hl] at hlt
    dsimp only
    rw [intS_toI _ (by simpa using hlt),putS_beN hl,List.take_append_drop]
  stk st h:=takeS_stk h
theorem len1' {b:List UInt8} (h:b.length=1):b=[b.headD 0]:=by
  match b,h with
  | [x],_=>rfl
theorem cod_byte:Cod byteR (fun x=>[x]) (fun _=>True) where
  fwd a rest _:=takeS_fwd (z:=(0:UInt8)) (f:=byteG) (n:=1) (b:=[a]) (rest:=rest) rfl rfl
  bwd st h:=by
    obtain ⟨h1,h2,h3,h4⟩:=takeS_zero (n:=1) (f:=byteG) (z:=(0:UInt8)) (st:=st) h
    have e:byteR st=((st.2.take 1).headD 0,(0,st.2.drop 1)):=h4
    have hl:(st.2.take 1).length=1:=by simp;omega
    rw [e]
    refine ⟨?_,trivial⟩
    dsimp only
    rw [←len1' hl,List.take_append_drop]
  stk st h:=takeS_stk h
theorem cod_flag:Cod flagR flagS (fun _=>True) where
  fwd a rest _:=by
    cases a with
    | true=>exact takeS_fwd (z:=false) (f:=flagG) (n:=1) (b:=[1]) (rest:=rest) rfl rfl
    | false=>exact takeS_fwd (z:=false) (f:=flagG) (n:=1) (b:=[0]) (rest:=rest) rfl rfl
  bwd st h:=by
    obtain ⟨h1,h2,h3,h4⟩:=takeS_zero (n:=1) (f:=flagG) (z:=false) (st:=st) h
    have e:flagR st=((st.2.take 1).headD 0 == 1,(0,st.2.drop 1)):=h4
    have hl:(st.2.take 1).length=1:=by simp;omega
    rw [e]
    refine ⟨?_,trivial⟩
    dsimp only
    have h5:=len1' hl
    generalize (st.2.take 1).headD 0=x at h5 h3
    have h6:st.2=[x] ++ st.2.drop 1:=by rw [←h5,List.take_append_drop]
    have hx:x=0∨x=1:=by
      simp only [flagG,h5,List.headD_cons,decide_eq_true_eq,UInt8.le_iff_toNat_le] at h3
      have h3':x.toNat≤1:=h3
      rcases (by omega:x.toNat=0∨x.toNat=1) with h|h
      · exact .inl (UInt8.toNat_inj.1 (by simpa using h))
      · exact .inr (UInt8.toNat_inj.1 (by simpa using h))
    rcases hx with rfl|rfl
    · exact h6
    · exact h6
  stk st h:=takeS_stk h
def bytesF' (b:List UInt8):List UInt8:=putS b.length 4 ++ b
theorem cod_bytes:Cod bytesR bytesF' (fun b=>b.length≤65536) where
  fwd a rest h:=by
    have hn:beN (putS a.length 4)=a.length:=by rw [beN_putS,Nat.mod_eq_of_lt];simp;omega
    have e1:lenR (0,putS a.length 4 ++ (a ++ rest))=((a.length:Int),(0,a ++ rest)):=by
      have:=takeS_fwd (z:=(0:Int)) (f:=lenG) (n:=4) (b:=putS a.length 4) (rest:=a ++ rest) (putS_length _ _) (by simp [lenG,hn];exact h)
      rw [show ((4:Nat):Int)=4 from rfl] at this
      rw [lenR,this,lenG,hn]
    unfold bytesR bytesF'
    rw [List.append_assoc,e1]
    exact takeS_fwd (z:=([]:List UInt8)) (f:=bytesG) (n:=a.length) (b:=a) (rest:=rest) rfl rfl
  bwd st h:=by
    have hz:(lenR st).2.1=0:=by
      by_cases h0:(lenR st).2.1=0
      · exact h0
      · exact absurd h (takeS_stk h0)
    obtain ⟨h1,h2,h3,h4⟩:=takeS_zero (n:=4) (f:=lenG) (z:=(0:Int)) (st:=st) hz
    have e:lenR st=((beN (st.2.take 4):Int),(0,st.2.drop 4)):=h4
    have hl:(st.2.take 4).length=4:=by simp;omega
    have hle:beN (st.2.take 4)≤65536:=by simpa [lenG] using h3
    unfold bytesR at h ⊢
    rw [e] at h ⊢
    obtain ⟨g1,g2,g3,g4⟩:=takeS_zero (n:=beN (st.2.take 4)) (f:=bytesG) (z:=([]:List UInt8)) (st:=(0,st.2.drop 4)) h
    dsimp only at g2 g4 ⊢
    rw [g4]
    dsimp only [bytesG,bytesF']
    have hll:((st.2.drop 4).take (beN (st.2.take 4))).length=beN (st.2.take 4):=by rw [List.length_take];omega
    rw [hll,putS_beN hl,List.append_assoc,List.take_append_drop,List.take_append_drop]
    exact ⟨rfl,hle⟩
  stk st h:=by
    unfold bytesR
    exact takeS_stk (takeS_stk h)
/-- one behind the other -/
theorem Cod.seq {α β:Type} {f:Rd→α×Rd} {g:α→List UInt8} {ok:α→Prop} {f2:α→Rd→β×Rd} {g2:α→β→List UInt8} {ok2:α→β→Prop} (h:Cod f g ok) (h2:∀ a,ok a→Cod (f2 a) (g2 a) (ok2 a)) (hs:∀ a st,st.1≠0→(f2 a st).2.1≠0) :
    Cod (fun st=>(((f st).1,(f2 (f st).1 (f st).2).1),(f2 (f st).1 (f st).2).2)) (fun x=>g x.1 ++ g2 x.1 x.2) (fun x=>ok x.1∧ok2 x.1 x.2) where
  fwd a rest hk:=by
    rw [List.append_assoc,h.fwd _ _ hk.1]
    dsimp only
    rw [(h2 _ hk.1).fwd _ _ hk.2]
  bwd st h0:=by
    dsimp only at h0 ⊢
    have hz:(f st).2.1=0:=by
      by_cases h1:(f st).2.1=0
      · exact h1
      · exact absurd h0 (hs _ _ h1)
    obtain ⟨a1,a2⟩:=h.bwd st hz
    obtain ⟨b1,b2⟩:=(h2 _ a2).bwd _ h0
    exact ⟨by rw [a1,List.append_assoc];congr 1,a2,b2⟩
  stk st h0:=hs _ _ (h.stk st h0)
/-- the same under other names -/
theorem Cod.iso {α β:Type} {f:Rd→α×Rd} {g:α→List UInt8} {ok:α→Prop} (h:Cod f g ok) (t:α→β) (u:β→α) {f':Rd→β×Rd} {g':β→List UInt8} {ok':β→Prop}
    (hf:∀ st,f' st=(t (f st).1,(f st).2)) (hg:∀ b,ok' b→g' b=g (u b)) (hok:∀ b,ok' b→ok (u b)∧t (u b)=b) (hok':∀ a,ok a→ok' (t a)∧u (t a)=a):Cod f' g' ok' where
  fwd b rest hb:=by
    rw [hf,hg b hb,h.fwd _ _ (hok b hb).1]
    dsimp only
    rw [(hok b hb).2]
  bwd st h0:=by
    rw [hf] at h0 ⊢
    obtain ⟨a1,a2⟩:=h.bwd st h0
    have:=hok' _ a2
    exact ⟨by dsimp only;rw [hg _ this.1,this.2];exact a1,this.1⟩
  stk st h0:=by rw [hf];exact h.stk st h0
end Go.Proofs.YtmgneincjfhaoaaGreat

namespace Go.Proofs.YtmgneincjfhaoaaGreat
set_option linter.unusedVariables false
set_option linter.unusedSimpArgs false
theorem cod_tag:Cod tagR (fun t=>t) (fun t=>t.length=32) where
  fwd a rest h:=takeS_fwd (z:=z32) (f:=tagG) (n:=32) (b:=a) (rest:=rest) h rfl
  bwd st h:=by
    obtain ⟨h1,h2,h3,h4⟩:=takeS_zero (n:=32) (f:=tagG) (z:=z32) (st:=st) h
    have e:tagR st=(st.2.take 32,(0,st.2.drop 32)):=h4
    rw [e]
    exact ⟨(List.take_append_drop _ _).symm,by simp;omega⟩
  stk st h:=takeS_stk h
def okPk (p:Pkt):Prop:=(I64 p.frm∧I64 p.to∧I64 p.epoch∧I64 p.boot∧I64 p.seqn)∧p.body.length≤65536∧p.tag.length=32
def pktR (st:Rd):Pkt×Rd:=(packR st,r7 st)
theorem cod_pkt:Cod pktR (fun p=>headS p ++ p.tag) okPk:=
  (cod_int.seq (fun _ _=>cod_int.seq (fun _ _=>cod_int.seq (fun _ _=>cod_int.seq (fun _ _=>cod_int.seq (fun _ _=>cod_bytes.seq (fun _ _=>cod_tag) fun _=>cod_tag.stk)
      fun _ st h=>cod_tag.stk _ (cod_bytes.stk _ h)) fun _ st h=>cod_tag.stk _ (cod_bytes.stk _ (cod_int.stk _ h))) fun _ st h=>cod_tag.stk _ (cod_bytes.stk _ (cod_int.stk _ (cod_int.stk _ h))))
      fun _ st h=>cod_tag.stk _ (cod_bytes.stk _ (cod_int.stk _ (cod_int.stk _ (cod_int.stk _ h))))) fun _ st h=>cod_tag.stk _ (cod_bytes.stk _ (cod_int.stk _ (cod_int.stk _ (cod_int.stk _ (cod_int.stk _ h)))))).iso
    (fun x=>⟨x.1,x.2.1,x.2.2.1,x.2.2.2.1,x.2.2.2.2.1,x.2.2.2.2.2.1,x.2.2.2.2.2.2⟩) (fun p=>(p.frm,(p.to,(p.epoch,(p.boot,(p.seqn,(p.body,p.tag))))))) (fun st=>rfl)
    (fun p _=>by rw [headS_num];simp [numS,bytesF'])
    (fun p h=>⟨⟨h.1.1,h.1.2.1,h.1.2.2.1,h.1.2.2.2.1,h.1.2.2.2.2,h.2.1,h.2.2⟩,rfl⟩)
    fun x h=>⟨⟨⟨h.1,h.2.1,h.2.2.1,h.2.2.2.1,h.2.2.2.2.1⟩,h.2.2.2.2.2.1,h.2.2.2.2.2.2⟩,rfl⟩
theorem parse_rest {p:Pkt} {c:List UInt8} (hp:okPk p) (hl:(headS p ++ p.tag ++ c).length≤65536):packR (newR (headS p ++ p.tag ++ c))=p∧r7 (newR (headS p ++ p.tag ++ c))=(0,c):=by
  have e:(packR (0,headS p ++ p.tag ++ c),r7 (0,headS p ++ p.tag ++ c))=(p,((0:Int),c)):=cod_pkt.fwd p c hp
  have hn:newR (headS p ++ p.tag ++ c)=(0,headS p ++ p.tag ++ c):=by unfold newR;rw [if_neg (by omega)]
  rw [hn]
  exact Prod.mk.inj e
theorem parse_ok {p:Pkt} (h:mayP p=true) (hp:okPk p) (hb:p.body.length≤60000):parseP (headS p ++ p.tag)=(p,0):=by
  obtain ⟨e1,e2⟩:=parse_rest (c:=[]) hp (by have:=headS_len p;have:=hp.2.2;simp;omega)
  rw [List.append_nil] at e1 e2
  unfold parseP
  rw [e1,e2]
  exact if_pos ⟨rfl,h⟩
end Go.Proofs.YtmgneincjfhaoaaGreat

namespace Go.Proofs.YtmgneincjfhaoaaGreat
set_option linter.unusedVariables false
set_option linter.unusedSimpArgs false
theorem tagS_tag (root:List UInt8) (p:Pkt) (t:List UInt8):tagS root { p with tag:=t }=tagS root p:=rfl
theorem pkt_eta (p:Pkt) (t:List UInt8):({ p with tag:=t }:Pkt)=⟨p.frm,p.to,p.epoch,p.boot,p.seqn,p.body,t⟩:=rfl
/-- within range -/
def Pkt.rg (p:Pkt):Prop:=(I64 p.frm∧I64 p.to∧I64 p.epoch∧I64 p.boot∧I64 p.seqn)∧p.body.length≤60000
theorem parse_tagged {p:Pkt} {t:List UInt8} (hm:mayP p=true) (hp:p.rg) (ht:t.length=32):parseP (headS p ++ t)=({ p with tag:=t },0):=by
  have hm':mayP { p with tag:=t }=true:=(mayP_tag p t).trans hm
  have:=parse_ok (p:={ p with tag:=t }) hm' ⟨hp.1,by have:=hp.2;show p.body.length≤65536;omega,ht⟩ hp.2
  rwa [headS_tag] at this
/-- bytes under a tag, got -/
theorem get_tagged (x:Ends) {p:Pkt} {t:List UInt8} (hm:mayP p=true) (hp:p.rg) (ht:t.length=32) :
    x.get (headS p ++ t)=if p.to≠x.who then ((pk0,190),x) else if t≠tagS x.root p then ((pk0,91),x) else
      (let r:=(got (p.frm,p.epoch) x.wins Wn.new).take p.boot p.seqn
       if r.1≠0 then ((pk0,r.1),{ x with wins:=puts (p.frm,p.epoch) x.wins r.2 }) else (({ p with tag:=t },0),{ x with wins:=puts (p.frm,p.epoch) x.wins r.2 })):=by
  unfold Ends.get
  rw [parse_tagged hm hp ht]
  dsimp only
  by_cases h1:p.to=x.who
  · rw [if_neg (by simp [h1]),if_neg (by simp [h1]:¬ p.to≠x.who)]
    have:tagS x.root { p with tag:=t }=tagS x.root p:=tagS_tag _ _ _
    rw [pkt_eta] at this
    rw [this]
  · rw [if_pos (.inr h1),if_pos h1]
theorem got_new {α:Type} (s:Sd) (d:α):got s [] d=d:=rfl
theorem got_one {α:Type} (s:Sd) (v d:α):got s [(s,v)] d=v:=by simp [got,at_]
end Go.Proofs.YtmgneincjfhaoaaGreat

namespace Go.Proofs.YtmgneincjfhaoaaGreat
set_option linter.unusedVariables false
set_option linter.unusedSimpArgs false
def okRs (p:Int) (e:Entry):Prop:=e.pos=p∧I64 e.stamp∧I64 e.client∧I64 e.id∧e.body.length≤65536
theorem cod_rest (p:Int):Cod (restR p) restF (okRs p):=
  (((cod_int.seq (fun _ _=>cod_int) fun _=>cod_int.stk).seq (fun _ _=>cod_int) fun _=>cod_int.stk).seq (fun _ _=>cod_bytes) fun _=>cod_bytes.stk).iso
    (fun x=>⟨p,x.1.1.1,x.1.1.2,x.1.2,x.2⟩) (fun e=>(((e.stamp,e.client),e.id),e.body)) (fun st=>rfl)
    (fun e _=>by simp [restF,numS,bytesF']) (fun e he=>⟨⟨⟨⟨he.2.1,he.2.2.1⟩,he.2.2.2.1⟩,he.2.2.2.2⟩,by cases e;simp [okRs] at he ⊢;exact he.1.symm⟩)
    fun x hx=>⟨⟨rfl,hx.1.1.1,hx.1.1.2,hx.1.2,hx.2⟩,rfl⟩
def okMb (m:Member):Prop:=I64 m.node∧I64 m.since
theorem cod_mem:Cod memR memF okMb:=
  ((cod_int.seq (fun _ _=>cod_int) fun _=>cod_int.stk).seq (fun _ _=>cod_flag) fun _=>cod_flag.stk).iso
    (fun x=>(⟨x.1.1,x.1.2,x.2⟩:Member)) (fun m=>((m.node,m.since),m.whole)) (fun st=>rfl) (fun m _=>by simp [memF,numS]) (fun m hm=>⟨⟨⟨hm.1,hm.2⟩,trivial⟩,rfl⟩) fun x hx=>⟨⟨hx.1.1,hx.1.2⟩,rfl⟩
theorem cod_nil {α:Type} (P:α→Prop) (g:α→List UInt8):Cod (fun st:Rd=>(([]:List α),st)) (fun l=>(l.map g).flatten) (fun l=>l.length=0∧∀ x∈l,P x) where
  fwd l rest h:=by obtain rfl:=List.length_eq_zero_iff.1 h.1;rfl
  bwd st h:=⟨rfl,rfl,by simp⟩
  stk st h:=h
theorem cod_mems:∀ n,Cod (memsR n) (fun l=>(l.map memF).flatten) (fun l=>l.length=n∧∀ m∈l,okMb m)
  | 0=>cod_nil okMb memF
  | n + 1 => (cod_mem.seq (fun _ _ => cod_mems n) fun _ => (cod_mems n).stk).iso (fun x => x.1 :: x.2) (fun l => (l.headD ⟨0, 0, false⟩, l.tail)) (fun st => rfl)
      (fun l hl=>by cases l with|nil=>simp at hl|cons m l=>simp) (fun l hl=>by cases l with
        | nil=>simp at hl
        | cons m l=>exact ⟨⟨hl.2 m (by simp),by simpa using hl.1,fun x hx=>hl.2 x (by simp at hx;simp [hx])⟩,rfl⟩) fun x hx=>⟨⟨by simpa using hx.2.1,fun m hm=>by
          rcases List.mem_cons.1 hm with rfl|hm
          · exact hx.1
          · exact hx.2.2 m hm⟩,rfl⟩
/-- entries from a position on -/
def okPos (p:Int):Nat→List Entry→Prop
  | _,[]=>True
  | i,e :: l=>okRs (IntKind.i64.wrap (p + i)) e∧okPos p (i + 1) l
theorem count_fwd {m:Int} {n:Nat} {rest:List UInt8} (h1:(n:Int)≤m) (h2:n≤rest.length) (h3:m≤1000):countR m (0,intS n ++ rest)=((n:Int),(0,rest)):=by
  have hi:I64 (n:Int):=by unfold I64;omega
  have hl:leftR (0,intS n ++ rest) - 8=(rest.length:Int):=by simp [leftR,intS_length];omega
  have:=takeS_fwd (z:=(0:Int)) (f:=countG m (leftR (0,intS n ++ rest) - 8)) (n:=8) (b:=intS n) (rest:=rest) (intS_length _) (by
    simp only [countG,beN_intS,toI_u _ hi,hl];simp;omega)
  rw [show ((8:Nat):Int)=8 from rfl] at this
  rw [countR,this,countG,beN_intS,toI_u _ hi]
theorem count_bwd {m:Int} {st:Rd} (h:(countR m st).2.1=0):st.2=intS (countR m st).1 ++ (countR m st).2.2∧0≤(countR m st).1∧(countR m st).1≤m:=by
  unfold countR at h ⊢
  obtain ⟨h1,h2,h3,h4⟩:=takeS_zero (n:=8) (f:=countG m (leftR st - 8)) (z:=(0:Int)) (st:=st) h
  rw [show ((8:Nat):Int)=8 from rfl] at h4
  rw [h4]
  have hl:(st.2.take 8).length=8:=by simp;omega
  have hlt:=beN_lt (st.2.take 8)
  rw [hl] at hlt
  simp only [countG,Bool.and_eq_true,decide_eq_true_eq] at h3 ⊢
  refine ⟨?_,h3.1.1,h3.1.2⟩
  rw [intS_toI _ (by simpa using hlt),putS_beN hl,List.take_append_drop]
theorem count_stk {m:Int} {st:Rd} (h:st.1≠0):(countR m st).2.1≠0:=takeS_stk h
/-- a number of things, and these -/
def cntR {α:Type} (m:Int) (el:Nat→Rd→List α×Rd) (st:Rd):List α×Rd:=el (countR m st).1.toNat (countR m st).2
theorem cod_cnt {α:Type} {m:Int} {el:Nat→Rd→List α×Rd} {gl:List α→List UInt8} {ok:List α→Prop} (hm:m≤1000) (h:∀ n,Cod (el n) gl (fun l=>l.length=n∧ok l)) (hl:∀ l,ok l→l.length≤(gl l).length) :
    Cod (cntR m el) (fun l=>intS l.length ++ gl l) (fun l=>(l.length:Int)≤m∧ok l) where
  fwd l rest hk:=by
    unfold cntR
    rw [List.append_assoc,count_fwd hk.1 (by rw [List.length_append];have:=hl l hk.2;omega) hm]
    dsimp only
    rw [Int.toNat_natCast]
    exact (h l.length).fwd l rest ⟨rfl,hk.2⟩
  bwd st h0:=by
    unfold cntR at h0 ⊢
    have hz:(countR m st).2.1=0:=by
      by_cases h1:(countR m st).2.1=0
      · exact h1
      · exact absurd h0 ((h _).stk _ h1)
    obtain ⟨a1,a2,a3⟩:=count_bwd hz
    obtain ⟨b1,b2,b3⟩:=(h _).bwd _ h0
    have e:(((el (countR m st).1.toNat (countR m st).2).1.length:Nat):Int)=(countR m st).1:=by rw [b2];omega
    rw [e]
    exact ⟨by rw [List.append_assoc,←b1];exact a1,a3,b3⟩
  stk st h0:=(h _).stk _ (count_stk h0)
theorem flat_len {α:Type} {g:α→List UInt8} (h:∀ x,1≤(g x).length):∀ l:List α,l.length≤((l.map g).flatten).length
  | []=>by simp
  | x :: l=>by have:=flat_len h l;have:=h x;simp at *;omega
def okCf (c:Config):Prop:=I64 c.epoch∧c.members.length≤5∧∀ m∈c.members,okMb m
theorem cod_config:Cod configR configF okCf:=
  (cod_int.seq (fun _ _=>cod_cnt (m:=5) (by omega) cod_mems fun l _=>flat_len (fun m=>by rw [memF_length];omega) l) fun _=>(cod_cnt (m:=5) (by omega) cod_mems fun l _=>flat_len (fun m=>by rw [memF_length];omega) l).stk).iso
    (fun x=>⟨x.1,x.2⟩) (fun c=>(c.epoch,c.members)) (fun st=>rfl) (fun c _=>by simp [configF,numS]) (fun c hc=>⟨⟨hc.1,by have:=hc.2.1;dsimp only;omega,hc.2.2⟩,rfl⟩) fun x hx=>⟨⟨hx.1,by have:=hx.2.1;dsimp only at this ⊢;omega,hx.2.2⟩,rfl⟩
end Go.Proofs.YtmgneincjfhaoaaGreat

namespace Go.Proofs.YtmgneincjfhaoaaGreat
set_option linter.unusedVariables false
set_option linter.unusedSimpArgs false
def ent00:Entry:=⟨0,0,0,0,[]⟩
theorem cod_ents (p:Int):∀ (n i:Nat),Cod (fun st=>entsR p i n st) (fun l=>(l.map restF).flatten) (fun l=>l.length=n∧okPos p i l)
  | 0,i=>{ fwd:=fun l rest h=>by (obtain rfl:=List.length_eq_zero_iff.1 h.1;rfl),bwd:=fun st h=>⟨rfl,rfl,trivial⟩,stk:=fun st h=>h }
  | n + 1, i => ((cod_rest (IntKind.i64.wrap (p + i))).seq (fun _ _ => cod_ents p n (i + 1)) fun _ => (cod_ents p n (i + 1)).stk).iso (fun x => x.1 :: x.2) (fun l => (l.headD ent00, l.tail)) (fun st => rfl)
      (fun l hl=>by cases l with|nil=>simp at hl|cons m l=>simp) (fun l hl=>by cases l with
        | nil=>simp at hl
        | cons m l=>exact ⟨⟨hl.2.1,by simpa using hl.1,hl.2.2⟩,rfl⟩) fun x hx=>⟨⟨by simpa using hx.2.1,hx.1,hx.2.2⟩,rfl⟩
theorem cod_cents (p:Int):Cod (cntR 4 (entsR p 0)) (fun l=>intS l.length ++ (l.map restF).flatten) (fun l=>(l.length:Int)≤4∧okPos p 0 l):=
  cod_cnt (by omega) (fun n=>cod_ents p n 0) fun l _=>flat_len (fun e=>by rw [restF_length];omega) l
/-- what a message's fields are, for what is read -/
def okMm (m:Msg):Prop:=match m.kind.toNat with
  | 1=>m={ msg0 with kind:=m.kind,client:=m.client,id:=m.id,body:=m.body }∧I64 m.client∧I64 m.id∧m.body.length≤65536
  | 2=>m={ msg0 with kind:=m.kind,upto:=m.upto,frm:=m.frm,entries:=m.entries }∧I64 m.upto∧I64 m.frm∧m.entries.length≤4∧okPos m.frm 0 m.entries
  | 3=>m={ msg0 with kind:=m.kind,have_:=m.have_,done:=m.done }∧I64 m.have_∧I64 m.done
  | 4=>m={ msg0 with kind:=m.kind,cfg:=m.cfg }∧okCf m.cfg
  | 5=>m={ msg0 with kind:=m.kind,since:=m.since }∧I64 m.since
  | 6=>m={ msg0 with kind:=m.kind,client:=m.client,id:=m.id,body:=m.body }∧I64 m.client∧I64 m.id∧m.body.length≤65536
  | _=>False
def okK (k:UInt8) (m:Msg):Prop:=m.kind=k∧okMm m
theorem cod_ask (k:UInt8) (hk:k.toNat=1∨k.toNat=6):Cod (takeAsk k) fieldF (okK k):=
  ((cod_int.seq (fun _ _=>cod_int) fun _=>cod_int.stk).seq (fun _ _=>cod_bytes) fun _=>cod_bytes.stk).iso
    (fun x=>{ msg0 with kind:=k,client:=x.1.1,id:=x.1.2,body:=x.2 }) (fun m=>((m.client,m.id),m.body)) (fun st=>rfl)
    (fun m hm=>by obtain ⟨rfl,_⟩:=hm;rcases hk with hk|hk<;>simp [fieldF,hk,askF,numS,bytesF'])
    (fun m hm=>by
      obtain ⟨rfl,hm⟩:=hm
      have:m={ msg0 with kind:=m.kind,client:=m.client,id:=m.id,body:=m.body }∧I64 m.client∧I64 m.id∧m.body.length≤65536:=by
        unfold okMm at hm
        rcases hk with hk|hk<;>(rw [hk] at hm;exact hm)
      exact ⟨⟨⟨this.2.1,this.2.2.1⟩,this.2.2.2⟩,this.1.symm⟩)
    fun x hx=>⟨⟨rfl,by
      unfold okMm
      rcases hk with hk|hk<;>(dsimp only;rw [hk];exact ⟨rfl,hx.1.1,hx.1.2,hx.2⟩)⟩,rfl⟩
theorem cod_tent (k:UInt8) (hk:k.toNat=2):Cod (takeEnt k) fieldF (okK k):=
  (cod_int.seq (fun _ _=>cod_int.seq (fun p _=>cod_cents p) fun p=>(cod_cents p).stk) fun _ st h=>(cod_cents _).stk _ (cod_int.stk st h)).iso
    (fun x=>{ msg0 with kind:=k,upto:=x.1,frm:=x.2.1,entries:=x.2.2 }) (fun m=>(m.upto,(m.frm,m.entries))) (fun st=>rfl)
    (fun m hm=>by obtain ⟨rfl,_⟩:=hm;simp [fieldF,hk,entF,numS])
    (fun m hm=>by
      obtain ⟨rfl,hm⟩:=hm
      unfold okMm at hm
      rw [hk] at hm
      exact ⟨⟨hm.2.1,hm.2.2.1,by have:=hm.2.2.2.1;dsimp only;omega,hm.2.2.2.2⟩,hm.1.symm⟩)
    fun x hx=>⟨⟨rfl,by
      unfold okMm
      dsimp only;rw [hk];exact ⟨rfl,hx.1,hx.2.1,by have:=hx.2.2.1;omega,hx.2.2.2⟩⟩,rfl⟩
theorem cod_have (k:UInt8) (hk:k.toNat=3):Cod (takeHave k) fieldF (okK k):=
  (cod_int.seq (fun _ _=>cod_int) fun _=>cod_int.stk).iso
    (fun x=>{ msg0 with kind:=k,have_:=x.1,done:=x.2 }) (fun m=>(m.have_,m.done)) (fun st=>rfl)
    (fun m hm=>by obtain ⟨rfl,_⟩:=hm;simp [fieldF,hk,numS])
    (fun m hm=>by
      obtain ⟨rfl,hm⟩:=hm
      unfold okMm at hm
      rw [hk] at hm
      exact ⟨⟨hm.2.1,hm.2.2⟩,hm.1.symm⟩)
    fun x hx=>⟨⟨rfl,by unfold okMm;dsimp only;rw [hk];exact ⟨rfl,hx.1,hx.2⟩⟩,rfl⟩
theorem cod_tcfg (k:UInt8) (hk:k.toNat=4):Cod (takeCfg k) fieldF (okK k):=
  cod_config.iso (fun x=>{ msg0 with kind:=k,cfg:=x }) (fun m=>m.cfg) (fun st=>rfl)
    (fun m hm=>by obtain ⟨rfl,_⟩:=hm;simp [fieldF,hk])
    (fun m hm=>by
      obtain ⟨rfl,hm⟩:=hm
      unfold okMm at hm
      rw [hk] at hm
      exact ⟨hm.2,hm.1.symm⟩)
    fun x hx=>⟨⟨rfl,by unfold okMm;dsimp only;rw [hk];exact ⟨rfl,hx⟩⟩,rfl⟩
theorem cod_whole (k:UInt8) (hk:k.toNat=5):Cod (takeWhole k) fieldF (okK k):=
  cod_int.iso (fun x=>{ msg0 with kind:=k,since:=x }) (fun m=>m.since) (fun st=>rfl)
    (fun m hm=>by obtain ⟨rfl,_⟩:=hm;simp [fieldF,hk,numS])
    (fun m hm=>by
      obtain ⟨rfl,hm⟩:=hm
      unfold okMm at hm
      rw [hk] at hm
      exact ⟨hm.2,hm.1.symm⟩)
    fun x hx=>⟨⟨rfl,by unfold okMm;dsimp only;rw [hk];exact ⟨rfl,hx⟩⟩,rfl⟩
theorem cod_takeM (k:UInt8):Cod (takeM k) fieldF (okK k):=by
  rcases kind_cases k with hk|hk|hk|hk|hk|hk|hk
  · have:=cod_ask k (.inl hk);rwa [show takeAsk k=takeM k from funext fun st=>by simp only [takeM,hk]] at this
  · have:=cod_tent k hk;rwa [show takeEnt k=takeM k from funext fun st=>by simp only [takeM,hk]] at this
  · have:=cod_have k hk;rwa [show takeHave k=takeM k from funext fun st=>by simp only [takeM,hk]] at this
  · have:=cod_tcfg k hk;rwa [show takeCfg k=takeM k from funext fun st=>by simp only [takeM,hk]] at this
  · have:=cod_whole k hk;rwa [show takeWhole k=takeM k from funext fun st=>by simp only [takeM,hk]] at this
  · have:=cod_ask k (.inr hk);rwa [show takeAsk k=takeM k from funext fun st=>by simp only [takeM,hk]] at this
  · have e:∀ st,takeM k st=(msg0,(40,[])):=fun st=>by
      unfold takeM
      split<;>first|omega|rfl
    have hn:∀ m,¬ okK k m:=fun m hm=>by
      obtain ⟨rfl,hm⟩:=hm
      unfold okMm at hm
      split at hm<;>first|omega|exact hm
    exact { fwd:=fun a rest h=>absurd h (hn a),bwd:=fun st h=>by (rw [e] at h;simp at h),stk:=fun st h=>by (rw [e];simp) }
/-- a message and its kind -/
def msgR (st:Rd):Msg×Rd:=takeM (byteR st).1 (byteR st).2
theorem cod_msg:Cod msgR formM okMm:=
  (cod_byte.seq (fun k _=>cod_takeM k) fun k=>(cod_takeM k).stk).iso (fun x=>x.2) (fun m=>(m.kind,m)) (fun st=>rfl)
    (fun m _=>rfl) (fun m hm=>⟨⟨trivial,rfl,hm⟩,rfl⟩) fun x hx=>⟨hx.2.2,by obtain ⟨k,m⟩:=x;obtain ⟨_,h2,_⟩:=hx;dsimp only at h2 ⊢;rw [h2]⟩
end Go.Proofs.YtmgneincjfhaoaaGreat

namespace Go.Proofs.YtmgneincjfhaoaaGreat
set_option linter.unusedVariables false
set_option linter.unusedSimpArgs false
def rng (m:Msg):Prop:=(I64 m.client∧I64 m.id∧I64 m.upto∧I64 m.frm∧I64 m.have_∧I64 m.done∧I64 m.since)∧(I64 m.cfg.epoch∧∀ x∈m.cfg.members,okMb x)∧∀ e∈m.entries,I64 e.pos∧I64 e.stamp∧I64 e.client∧I64 e.id
theorem okPos_of {m:Msg} (hf:1≤m.frm) (hf2:I64 m.frm):∀ {l:List Entry} {i:Nat},allGE (pEnt m) i l=true→(∀ e∈l,I64 e.pos∧I64 e.stamp∧I64 e.client∧I64 e.id)→okPos m.frm i l
  | [],_,_,_=>trivial
  | e :: l,i,h,hr=>by
    simp only [allGE,Bool.and_eq_true] at h
    refine ⟨?_,okPos_of hf hf2 h.2 fun x hx=>hr x (by simp [hx])⟩
    have h1:=h.1
    simp only [pEnt,Bool.and_eq_true,beq_iff_eq] at h1
    obtain ⟨h2,h3⟩:=h1
    simp only [mayE,Bool.and_eq_true,decide_eq_true_eq] at h2
    obtain ⟨r1,r2,r3,r4⟩:=hr e (by simp)
    have hp:1≤e.pos:=h2.1.1.1
    unfold I64 at r1 hf2
    rw [wrap_i64 (by omega) (by omega)] at h3
    refine ⟨?_,r2,r3,r4,by omega⟩
    rw [wrap_i64 (by omega) (by omega)]
    omega
theorem okM_of {m:Msg} (h:mayM m=true) (r:rng m):okMm m:=by
  obtain ⟨⟨r1,r2,r3,r4,r5,r6,r7⟩,⟨r8,r9⟩,r10⟩:=r
  unfold mayM at h
  unfold okMm
  have ask:(mayAsk m && noneM (bareAsk m))=true→m={ msg0 with kind:=m.kind,client:=m.client,id:=m.id,body:=m.body }∧I64 m.client∧I64 m.id∧m.body.length≤65536:=fun h=>by
    simp only [mayAsk,noneM,bareAsk,Bool.and_eq_true,decide_eq_true_eq,beq_iff_eq,List.isEmpty_iff] at h
    refine ⟨?_,r1,r2,by omega⟩
    obtain ⟨k,c,i,b,u,f,es,hv,d,⟨ep,ms⟩,s⟩:=m
    simp [msg0,cfg0] at h ⊢
    obtain ⟨_,h1⟩:=h
    simp_all
  split at h
  · rename_i hk;(try simp only [hk]);exact ask h
  · rename_i hk;(try simp only [hk])
    simp only [Bool.and_eq_true] at h
    obtain ⟨h1,h2⟩:=h
    have hb:=mayEnt_body h1
    simp only [mayEnt,Bool.and_eq_true,decide_eq_true_eq] at h1
    refine ⟨?_,r3,r4,hb.1,okPos_of h1.1.1.2 r4 h1.2 r10⟩
    simp only [noneM,bareEnt,Bool.and_eq_true,beq_iff_eq,List.isEmpty_iff] at h2
    obtain ⟨k,c,i,b,u,f,es,hv,d,⟨ep,ms⟩,s⟩:=m
    simp [msg0,cfg0] at h2 ⊢
    simp_all
  · rename_i hk;(try simp only [hk])
    simp only [Bool.and_eq_true] at h
    obtain ⟨h1,h2⟩:=h
    refine ⟨?_,r5,r6⟩
    simp only [noneM,bareHave,Bool.and_eq_true,beq_iff_eq,List.isEmpty_iff] at h2
    obtain ⟨k,c,i,b,u,f,es,hv,d,⟨ep,ms⟩,s⟩:=m
    simp [msg0,cfg0] at h2 ⊢
    simp_all
  · rename_i hk;(try simp only [hk])
    simp only [Bool.and_eq_true] at h
    obtain ⟨h1,h2⟩:=h
    have hc:okCf m.cfg:=⟨r8,by simp only [mayCfg,Bool.and_eq_true,decide_eq_true_eq] at h1;exact h1.1.2,r9⟩
    refine ⟨?_,hc⟩
    simp only [noneM,bareCfg,cfg0,Bool.and_eq_true,beq_iff_eq,List.isEmpty_iff] at h2
    obtain ⟨k,c,i,b,u,f,es,hv,d,⟨ep,ms⟩,s⟩:=m
    simp [msg0,cfg0] at h2 ⊢
    simp_all
  · rename_i hk;(try simp only [hk])
    simp only [Bool.and_eq_true] at h
    obtain ⟨h1,h2⟩:=h
    refine ⟨?_,r7⟩
    simp only [noneM,bareWhole,Bool.and_eq_true,beq_iff_eq,List.isEmpty_iff] at h2
    obtain ⟨k,c,i,b,u,f,es,hv,d,⟨ep,ms⟩,s⟩:=m
    simp [msg0,cfg0] at h2 ⊢
    simp_all
  · rename_i hk;(try simp only [hk]);exact ask h
  · cases h
theorem readM_eq (b:List UInt8):readM b=msgR (newR b):=rfl
theorem newR_ok {b:List UInt8} (h:b.length≤65536):newR b=(0,b):=by unfold newR;rw [if_neg (by omega)]
theorem read_form {m:Msg} {c:List UInt8} (h:mayM m=true) (r:rng m) (hl:(formM m ++ c).length≤65536):readM (formM m ++ c)=(m,(0,c)):=by
  rw [readM_eq,newR_ok hl]
  exact cod_msg.fwd m c (okM_of h r)
theorem parse_form {m:Msg} (h:mayM m=true) (r:rng m):parseM (formM m)=(m,0):=by
  have h1:=read_form (c:=[]) h r (by rw [List.append_nil];exact formM_length h)
  rw [List.append_nil] at h1
  unfold parseM
  rw [h1,if_pos ⟨by simp [endR],h⟩]
end Go.Proofs.YtmgneincjfhaoaaGreat

namespace Go.Proofs.YtmgneincjfhaoaaGreat
set_option linter.unusedVariables false
set_option linter.unusedSimpArgs false
abbrev rtm:List UInt8:=[114,111,111,116]
def aC1:Config:=⟨1,fm 1⟩
def aC2:Config:=⟨2,[⟨0,1,true⟩,⟨1,2,false⟩]⟩
def aC3:Config:=⟨2,[⟨0,1,true⟩,⟨1,2,true⟩]⟩
def aC5:Config:=⟨3,[⟨1,2,true⟩]⟩
def aE0:Ends:=⟨rtm,9,1,[],[]⟩
def aE1:Ends:=aE0.told 1 all6
def aE2:Ends:=aE1.told 2 all6
def aw1:Wn:=Wn.new.after 0 1
def aw2:Wn:=aw1.after 0 2
def aE3:Ends:={ aE2 with wins:=[((1,2),aw1)] }
def aE4:Ends:={ aE2 with wins:=[((1,2),aw2)] }
def aE5:Ends:=aE4.told 3 all6
def aO0:Ends:=⟨rtm,1,0,[],[]⟩
def aO1:Ends:=⟨rtm,1,0,[((9,2),1)],[]⟩
def aO2:Ends:=⟨rtm,1,0,[((9,2),2)],[]⟩
def apA:Pkt:=⟨1,9,2,0,1,formM (wholeMsg 1),List.replicate 32 0⟩
def apB:Pkt:=⟨1,9,2,0,2,formM (wholeMsg 2),List.replicate 32 0⟩
def apC:Pkt:=⟨9,3,3,1,1,formM (cfgMsg aC5),List.replicate 32 0⟩
theorem aE0_n:∀ s,0≤got s aE0.sent 0:=fun s=>Int.le_refl _
theorem a1:Mst.tick ⟨aC1,aE0⟩=(all6.map (fun to=>aE0.out to 1 (formM (cfgMsg aC1))),⟨aC1,aE1⟩)∧(∀ s,0≤got s aE1.sent 0)∧∀ s,got s aE1.sent 0=if s.2=1∧s.1∈all6 then got s aE0.sent 0 + 1 else got s aE0.sent 0:=
  tick_told (x:=⟨aC1,aE0⟩) (by decide) (by decide) rfl (by decide) aE0_n
theorem goes_ok (x:Mst) {c:Config} {l:List (List UInt8)} {y:Mst} (h:Mst.tick { x with cfg:=c }=(l,y)):x.goes (c,0)=((l,0),y):=by
  unfold Mst.goes
  rw [if_pos rfl,h]
theorem goes_no (x:Mst) {c:Config} {e:Int} (h:e≠0):x.goes (c,e)=(([],e),x):=if_neg h
theorem a2:Mst.goes ⟨aC1,aE1⟩ (cAdd aC1 1)=((all6.map (fun to=>aE1.out to 2 (formM (cfgMsg aC2))),0),⟨aC2,aE2⟩)∧(∀ s,0≤got s aE2.sent 0)∧∀ s,got s aE2.sent 0=if s.2=2∧s.1∈all6 then got s aE1.sent 0 + 1 else got s aE1.sent 0:=by
  have h:=tick_told (x:=⟨aC2,aE1⟩) (by decide) (by decide) rfl (by decide) a1.2.1
  have e:cAdd aC1 1=(aC2,0):=by rfl
  rw [e]
  exact ⟨goes_ok _ h.1,h.2⟩
theorem a3:Mst.goes ⟨aC2,aE2⟩ (cAdd aC2 2)=(([],220),⟨aC2,aE2⟩):=by
  have e:cAdd aC2 2=(cfg0,220):=by rfl
  rw [e];exact goes_no _ (by decide)
theorem a4 (E:Ends):Mst.goes ⟨aC2,E⟩ (cRemove aC2 0)=(([],220),⟨aC2,E⟩):=by
  have e:cRemove aC2 0=(cfg0,220):=by rfl
  rw [e];exact goes_no _ (by decide)
theorem whole_rng (n:Int) (h:I64 n):rng (wholeMsg n):=by
  have z:I64 0:=by unfold I64;omega
  exact ⟨⟨z,z,z,z,z,z,h⟩,⟨z,fun x hx=>by cases hx⟩,fun e he=>by cases he⟩
theorem a5:mwholeS aO0 2 1=(headS apA ++ tagS rtm apA,aO1):=by
  have hm:mayM (wholeMsg 1)=true:=by decide
  have hp:aO0.pkt 9 2 (formM (wholeMsg 1))=apA:=rfl
  have h:mayP apA=true:=by decide
  unfold mwholeS printS
  rw [if_pos hm]
  unfold Ends.send
  rw [hp,if_pos h]
  rfl
theorem a6:mwholeS aO1 2 2=(headS apB ++ tagS rtm apB,aO2):=by
  have hm:mayM (wholeMsg 2)=true:=by decide
  have hp:aO1.pkt 9 2 (formM (wholeMsg 2))=apB:=rfl
  have h:mayP apB=true:=by decide
  unfold mwholeS printS
  rw [if_pos hm]
  unfold Ends.send
  rw [hp,if_pos h]
  rfl
theorem aw1_t:Wn.new.take 0 1=(0,aw1):=by unfold Wn.take;rw [if_neg (by decide),if_pos (by decide)];rfl
theorem aw2_t:aw1.take 0 2=(0,aw2):=by unfold Wn.take;rw [if_neg (by decide),if_pos (by decide)];rfl
theorem aw3_t:Wn.new.take 1 1=(0,Wn.new.after 1 1):=by unfold Wn.take;rw [if_neg (by decide),if_pos (by decide)]
theorem apA_rg:apA.rg:=by
  unfold Pkt.rg I64 apA
  exact ⟨by decide,by decide⟩
theorem apB_rg:apB.rg:=by
  unfold Pkt.rg I64 apB
  exact ⟨by decide,by decide⟩
theorem apC_rg:apC.rg:=by
  unfold Pkt.rg I64 apC
  exact ⟨by decide,by decide⟩
theorem a7:Mst.get ⟨aC2,aE2⟩ (headS apA ++ tagS rtm apA)=(0,⟨aC2,aE3⟩):=by
  have g:aE2.get (headS apA ++ tagS rtm apA)=(({ apA with tag:=tagS rtm apA },0),aE3):=by
    rw [get_tagged _ (by decide) apA_rg (tagS_len _ _),if_neg (by decide),if_neg (by rw [show aE2.root=rtm from rfl];simp)]
    show (let r:=(got ((1:Int),(2:Int)) [] Wn.new).take 0 1;_)=_
    rw [got_new,aw1_t];rfl
  have hb:({ apA with tag:=tagS rtm apA }:Pkt).body=formM (wholeMsg 1):=rfl
  have hf:({ apA with tag:=tagS rtm apA }:Pkt).frm=1:=rfl
  unfold Mst.get
  dsimp only
  rw [g]
  dsimp only
  rw [if_neg (by simp),hb,hf,parse_form (by decide) (whole_rng 1 (by unfold I64;omega))]
  rw [if_neg (by decide)]
  rfl
theorem a8:Mst.get ⟨aC2,aE3⟩ (headS apB ++ tagS rtm apB)=(0,⟨aC3,aE4⟩):=by
  have g:aE3.get (headS apB ++ tagS rtm apB)=(({ apB with tag:=tagS rtm apB },0),aE4):=by
    rw [get_tagged _ (by decide) apB_rg (tagS_len _ _),if_neg (by decide),if_neg (by rw [show aE3.root=rtm from rfl];simp)]
    show (let r:=(got ((1:Int),(2:Int)) [((1,2),aw1)] Wn.new).take 0 2;_)=_
    rw [got_one,aw2_t];rfl
  have hb:({ apB with tag:=tagS rtm apB }:Pkt).body=formM (wholeMsg 2):=rfl
  have hf:({ apB with tag:=tagS rtm apB }:Pkt).frm=1:=rfl
  unfold Mst.get
  dsimp only
  rw [g]
  dsimp only
  rw [if_neg (by simp),hb,hf,parse_form (by decide) (whole_rng 2 (by unfold I64;omega))]
  rw [if_neg (by decide)]
  rfl
theorem a9:Mst.goes ⟨aC3,aE4⟩ (cRemove aC3 0)=((all6.map (fun to=>aE4.out to 3 (formM (cfgMsg aC5))),0),⟨aC5,aE5⟩)∧(∀ s,0≤got s aE5.sent 0):=by
  have h:=tick_told (x:=⟨aC5,aE4⟩) (by decide) (by decide) rfl (by decide) a2.2.1
  have e:cRemove aC3 0=(aC5,0):=by rfl
  rw [e]
  exact ⟨goes_ok _ h.1,h.2.1⟩
theorem a10:aE4.out 3 3 (formM (cfgMsg aC5))=headS apC ++ tagS rtm apC:=by
  have hg:got ((3:Int),(3:Int)) aE4.sent 0=0:=by
    have h2:=a2.2.2 (3,3)
    have h1:=a1.2.2 (3,3)
    rw [if_neg (by decide)] at h1 h2
    exact (h2.trans h1)
  have hp:aE4.pkt 3 3 (formM (cfgMsg aC5))=apC:=by
    unfold Ends.pkt
    rw [hg]
    rfl
  unfold Ends.out
  rw [hp];rfl
theorem a11:toldS ⟨rtm,3,0,[],[]⟩ (headS apC ++ tagS rtm apC)=(aC5,true):=by
  have g:(⟨rtm,3,0,[],[]⟩:Ends).get (headS apC ++ tagS rtm apC)=(({ apC with tag:=tagS rtm apC },0),⟨rtm,3,0,[],[((9,3),Wn.new.after 1 1)]⟩):=by
    rw [get_tagged _ (by decide) apC_rg (tagS_len _ _),if_neg (by decide),if_neg (by simp)]
    show (let r:=(got ((9:Int),(3:Int)) [] Wn.new).take 1 1;_)=_
    rw [got_new,aw3_t];rfl
  have hb:({ apC with tag:=tagS rtm apC }:Pkt).body=formM (cfgMsg aC5):=rfl
  have hf:({ apC with tag:=tagS rtm apC }:Pkt).frm=9:=rfl
  have he:({ apC with tag:=tagS rtm apC }:Pkt).epoch=3:=rfl
  have hr:rng (cfgMsg aC5):=by
    have z:I64 0:=by unfold I64;omega
    exact ⟨⟨z,z,z,z,z,z,z⟩,⟨by unfold I64;decide,fun x hx=>by
      have:x=⟨1,2,true⟩:=by simpa [cfgMsg,aC5] using hx
      subst this;exact ⟨by unfold I64;decide,by unfold I64;decide⟩⟩,fun e he=>by cases he⟩
  unfold toldS
  rw [g]
  dsimp only
  rw [hf,hb,he,parse_form (by decide) hr,if_neg (by simp)]
  rfl
end Go.Proofs.YtmgneincjfhaoaaGreat

namespace Go.Proofs.YtmgneincjfhaoaaGreat
set_option linter.unusedVariables false
set_option linter.unusedSimpArgs false
set_option maxHeartbeats 8000000
open Go.RowKit
set_option maxRecDepth 100000
theorem aE1_fit:aE1.fit 1:=fun s=>⟨a1.2.1 s,by
  rw [a1.2.2 s]
  have h0:got s aE0.sent 0=0:=rfl
  rw [h0]
  split<;>omega⟩
theorem aE2_fit:aE2.fit 2:=fun s=>⟨a2.2.1 s,by
  rw [a2.2.2 s]
  have:=(aE1_fit s).2
  split<;>omega⟩
theorem fit_le {x:Ends} {n m:Int} (h:x.fit n) (hm:n≤m):x.fit m:=fun s=>⟨(h s).1,Int.le_trans (h s).2 hm⟩
theorem fit0 (root:List UInt8) (who boot:Int) (w:List (Sd×Wn)) {n:Int} (hn:0≤n):(⟨root,who,boot,[],w⟩:Ends).fit n:=fun s=>⟨Int.le_refl _,hn⟩
theorem aO1_fit:aO1.fit 1000000:=fun s=>by
  have e:aO1.sent=[((9,2),1)]:=rfl
  rw [e,got_cons]
  have h0:got s ([]:List (Sd×Int)) 0=0:=rfl
  rw [h0]
  split<;>omega
theorem aw1_ok:aw1.ok:=by unfold Wn.ok;decide
theorem mastawake_ac:AC Tryz.prog 10 [] [] (fun v bs'=>v=B true∧bs'=[]):=by
  have n1:AC Tryz.prog 8 [bs none rtm,I 1] [] (fun v bs'=>v=.tu [.bp 0 0 0,I 0]∧bs'=[mB ⟨aC1,aE0⟩]):=mnew_ok rtm 1 (by decide) (by decide)
  have n0:=mnew_bad rtm 0 (by decide)
  have t1:=mtick_ac ⟨aC1,aE0⟩ (by decide) (by decide) (fit0 _ _ _ _ (by decide))
  have A1:=madd_ac ⟨aC1,aE1⟩ 1 (by decide) (by decide) (fit_le aE1_fit (by decide))
  have A2:=madd_ac ⟨aC2,aE2⟩ 2 (by decide) (by decide) (fit_le aE2_fit (by decide))
  have R1:=mremove_ac ⟨aC2,aE2⟩ 0 (by decide) (by decide) (fit_le aE2_fit (by decide))
  have O1:AC Tryz.prog 24 [bs none rtm,I 1,I 0] [] (fun v bs'=>v=.bp 0 0 0∧bs'=[xE aO0]):=lnew_ac rtm 1 0 (by decide)
  have W1c:=mwhole_ac aO0 2 1 (by decide) (fit0 _ _ _ _ (by decide))
  have W2c:=mwhole_ac aO1 2 2 (by decide) aO1_fit
  have hlA:(headS apA ++ tagS rtm apA).length≤60000:=by rw [List.length_append,headS_len,tagS_len];decide
  have hlB:(headS apB ++ tagS rtm apB).length≤60000:=by rw [List.length_append,headS_len,tagS_len];decide
  have hlC:(headS apC ++ tagS rtm apC).length≤60000:=by rw [List.length_append,headS_len,tagS_len];decide
  have G1:=mget_ac ⟨aC2,aE2⟩ (headS apA ++ tagS rtm apA) hlA (by decide) (by decide) (fun q hq=>by cases hq)
  have G2:=mget_ac ⟨aC2,aE3⟩ (headS apB ++ tagS rtm apB) hlB (by decide) (by decide) (fun q hq=>by
    have e:q=((1,2),aw1):=by simpa [aE3] using hq
    subst e;exact aw1_ok)
  have R2:=mremove_ac ⟨aC2,aE3⟩ 0 (by decide) (by decide) (fit_le (n:=2) aE2_fit (by decide))
  have R3:=mremove_ac ⟨aC3,aE4⟩ 0 (by decide) (by decide) (fit_le (n:=2) aE2_fit (by decide))
  have T:=told_ac ⟨rtm,3,0,[],[]⟩ (headS apC ++ tagS rtm apC) hlC (by decide) (fun q hq=>by cases hq)
  have H:=chead_ac aC5 (by decide)
  have Cf:=mconfig_ac ⟨aC5,aE5⟩ (by decide)
  have S:=csame_ac aC5 aC5 (by decide)
  rw [show cHead aC5=1 from rfl] at H
  rw [decide_eq_true rfl] at S
  rw [a1.1] at t1
  rw [a2.1] at A1
  rw [a3] at A2
  rw [a4] at R1 R2
  rw [a5] at W1c
  rw [a6] at W2c
  rw [a7] at G1
  rw [a8] at G2
  rw [a9.1] at R3
  rw [a11] at T
  dsimp only at t1 A1 A2 R1 R2 W1c W2c G1 G2 R3 T Cf
  have hb3:(all6.map (fun to=>aE4.out to 3 (formM (cfgMsg aC5))))[3]? = some (headS apC ++ tagS rtm apC):=by rw [←a10];rfl
  have k1:(all6.map (fun to=>aE0.out to 1 (formM (cfgMsg aC1)))).length=6:=rfl
  have k2:(all6.map (fun to=>aE1.out to 2 (formM (cfgMsg aC2)))).length=6:=rfl
  have k5:(all6.map (fun to=>aE4.out to 3 (formM (cfgMsg aC5)))).length=6:=rfl
  generalize all6.map (fun to=>aE0.out to 1 (formM (cfgMsg aC1)))=L1 at *
  generalize all6.map (fun to=>aE1.out to 2 (formM (cfgMsg aC2)))=L2 at *
  generalize all6.map (fun to=>aE4.out to 3 (formM (cfgMsg aC5)))=L5 at *
  have hb4:(L5.map eS)[3]? = some [bs none (headS apC ++ tagS rtm apC)]:=by rw [List.getElem?_map,hb3];rfl
  have hb5:3 < (L5.map eS).length:=by rw [List.length_map,k5];decide
  have c5:(aC5.epoch == 3)=true:=rfl
  have c6:((aC5.members.length:Int) == 1)=true:=rfl
  clear hlA hlB hlC hb3
  generalize headS apA ++ tagS rtm apA=bA at *
  generalize headS apB ++ tagS rtm apB=bB at *
  generalize headS apC ++ tagS rtm apC=bC at *
  generalize aC1=C1 at *
  generalize aC2=C2 at *
  generalize aC3=C3 at *
  generalize aC5=C5 at *
  generalize aE0=E0 at *
  generalize aE1=E1 at *
  generalize aE2=E2 at *
  generalize aE3=E3 at *
  generalize aE4=E4 at *
  generalize aE5=E5 at *
  generalize aO0=O0 at *
  generalize aO1=Oa at *
  generalize aO2=Ob at *
  have l3:=lnew_ac rtm 3 0 (by decide)
  refine AC.N Tryz.func10 Tryz.ntmps10 ?_
  intro X hρ hmks
  refine NX ?_
  refine CP.SL ?_
  refine CP.SL ?_
  refine CP.SL ?_
  refine CP.SL ?_
  refine CP.SL ?_
  refine CP.SL ?_
  refine CP.SL ?_
  refine CP.SL ?_
  refine CP.SL ?_
  refine CP.SL ?_
  refine CP.SL ?_
  refine CP.SL ?_
  refine CP.SL ?_
  refine CP.SL ?_
  repeat' (first|((first|((with_reducible apply AP.k_any);first|refine AP.ST ?_|(refine AP.Y ?_;dsimp only)|refine AP.G (fun hg=>?_) (fun hg=>?_)|(refine AP.V (fun c hnil=>?_);simp only [nz])|((with_reducible apply AP.k_any);refine AP.B 1 (n1) ?_)|((with_reducible apply AP.k_any);refine AP.C (n0) ?_)|((with_reducible apply AP.k_any);refine AP.B 0 (t1) ?_)|((with_reducible apply AP.k_any);refine AP.B 0 (A1) ?_)|((with_reducible apply AP.k_any);refine AP.B 0 (A2) ?_)|((with_reducible apply AP.k_any);refine AP.B 0 (R1) ?_)|((with_reducible apply AP.k_any);refine AP.B 1 (O1) ?_)|((with_reducible apply AP.k_any);refine AP.B 0 (W1c) ?_)|((with_reducible apply AP.k_any);refine AP.B 0 (G1) ?_)|((with_reducible apply AP.k_any);refine AP.B 0 (R2) ?_)|((with_reducible apply AP.k_any);refine AP.B 0 (W2c) ?_)|((with_reducible apply AP.k_any);refine AP.B 0 (G2) ?_)|((with_reducible apply AP.k_any);refine AP.B 0 (R3) ?_)|refine AP.CI ?_|refine AP.PF ?_))<;>(try simp only [k1,k2,k5,nq,Nat.reduceBEq,Nat.reduceAdd,Nat.reduceSub]))|refine CP.TN ?_|((with_reducible apply CP.k_reg);refine cp_regG fun Q' hQ'=>?_)|((with_reducible apply CP.k_cond);refine cp_cond rfl (fun hc=>?_) (fun hc=>?_))|(simp only [List.append_eq,List.cons_append,List.nil_append]))
  first|refine cp_drwX fun Q' hQ'=>?_|refine cp_drawX ?_
  (((with_reducible apply DW.k_any);refine DW.ST ?_)<;>(try simp only [nq,Nat.reduceBEq,Nat.reduceAdd,Nat.reduceSub]))
  refine DW.A 3 ?_
  simp only [nq,Nat.reduceBEq,Nat.reduceAdd,Nat.reduceSub]
  repeat' (first|((first|((with_reducible apply AP.k_any);first|refine AP.ST ?_|(refine AP.Y ?_;dsimp only)|refine AP.G (fun hg=>?_) (fun hg=>?_)|(refine AP.V (fun c hnil=>?_);simp only [nz])|refine AP.PF ?_)|((with_reducible apply DW.k_any);first|refine DW.ST ?_|((fail_if_success refine DW.known rfl ?_);refine DW.G (fun hg=>?_) (fun hg=>?_))))<;>(try simp only [c5,c6,k5,nq,Nat.reduceBEq,Nat.reduceAdd,Nat.reduceSub]))|refine CP.T2 ?_|((with_reducible apply CP.k_drw);refine cp_drwX fun Q' hQ'=>?_)|((with_reducible apply CP.k_reg);refine cp_regG fun Q' hQ'=>?_)|((with_reducible apply CP.k_cond);refine cp_cond rfl (fun hc=>?_) (fun hc=>?_))|(simp only [List.append_eq,List.cons_append,List.nil_append]))
  (exact RetQ.A [] (by exact ⟨rfl,rfl⟩))
end Go.Proofs.YtmgneincjfhaoaaGreat

namespace Go.Proofs.YtmgneincjfhaoaaGreat
set_option linter.unusedVariables false
set_option linter.unusedSimpArgs false
set_option maxHeartbeats 8000000
open Go.RowKit
set_option maxRecDepth 100000
abbrev asA (l:List Aa):AV:=.sl none 5 (l.map eAa)
def greatA (root:List UInt8) (l:List Aa):Bool:=decide (100 < root.length) || decide (60 < l.length) || l.any fun a=>decide (1000 < a.bytes.length)
theorem great26_ac (root:List UInt8) (l:List Aa) (hl:l.length≤100000000):AC Tryz.prog 7 [bs none root,asA l] [] (fun v bs'=>v=B (greatA root l)∧bs'=[]):=by
  by_cases h1:100 < root.length
  · have e:greatA root l=true:=by simp [greatA,h1]
    have d1:decide ((100:Int) < (root.length:Int))=true:=by simp;omega
    rw [e]
    refine AC.N Tryz.func7 Tryz.ntmps7 ?_
    intro X hρ hmks
    refine NX ?_
    repeat' (first|((first|((with_reducible apply AP.k_any);first|refine AP.ST ?_|(refine AP.Y ?_;dsimp only)|refine AP.G (fun hg=>?_) (fun hg=>?_)|(refine AP.V (fun c hnil=>?_);simp only [nz])|refine AP.PF ?_))<;>(try simp only [d1,nq,Nat.reduceBEq,Nat.reduceAdd,Nat.reduceSub]))|refine CP.TL ?_|((with_reducible apply CP.k_reg);refine cp_regG fun Q' hQ'=>?_)|((with_reducible apply CP.k_cond);refine cp_cond rfl (fun hc=>?_) (fun hc=>?_))|(simp only [List.append_eq,List.cons_append,List.nil_append]))
    (exact RetQ.A [] (by exact ⟨rfl,rfl⟩))
  · have d1:decide ((100:Int) < (root.length:Int))=false:=by simp;omega
    by_cases h2:60 < l.length
    · have e:greatA root l=true:=by simp [greatA,h2]
      have d2:decide ((60:Int) < (l.length:Int))=true:=by simp;omega
      rw [e]
      refine AC.N Tryz.func7 Tryz.ntmps7 ?_
      intro X hρ hmks
      refine NX ?_
      repeat' (first|((first|((with_reducible apply AP.k_any);first|refine AP.ST ?_|(refine AP.Y ?_;dsimp only)|refine AP.G (fun hg=>?_) (fun hg=>?_)|(refine AP.V (fun c hnil=>?_);simp only [nz])|refine AP.PF ?_))<;>(try simp only [d1,d2,nq,Nat.reduceBEq,Nat.reduceAdd,Nat.reduceSub]))|refine CP.TL ?_|((with_reducible apply CP.k_reg);refine cp_regG fun Q' hQ'=>?_)|((with_reducible apply CP.k_cond);refine cp_cond rfl (fun hc=>?_) (fun hc=>?_))|(simp only [List.append_eq,List.cons_append,List.nil_append]))
      (exact RetQ.A [] (by exact ⟨rfl,rfl⟩))
    · have d2:decide ((60:Int) < (l.length:Int))=false:=by simp;omega
      have e:greatA root l=l.any fun a=>decide (1000 < a.bytes.length):=by simp [greatA,h1,h2]
      rw [e]
      clear e
      refine AC.N Tryz.func7 Tryz.ntmps7 ?_
      intro X hρ hmks
      refine NX ?_
      repeat' (first|((first|((with_reducible apply AP.k_any);first|refine AP.ST ?_|(refine AP.Y ?_;dsimp only)|refine AP.G (fun hg=>?_) (fun hg=>?_)|(refine AP.V (fun c hnil=>?_);simp only [nz])|refine AP.PF ?_))<;>(try simp only [d1,d2,nq,Nat.reduceBEq,Nat.reduceAdd,Nat.reduceSub]))|refine CP.TL ?_|((with_reducible apply CP.k_reg);refine cp_regG fun Q' hQ'=>?_)|((with_reducible apply CP.k_cond);refine cp_cond rfl (fun hc=>?_) (fun hc=>?_))|(simp only [List.append_eq,List.cons_append,List.nil_append]))
      refine cp_loopS [4,5,14,15,16,17,18,19,20,21,22,23,24,25,26] (fun k:Nat=>l.length - k) (fun k=>k≤l.length∧(l.any fun a=>decide (1000 < a.bytes.length))=((l.drop k).any fun a=>decide (1000 < a.bytes.length))) (fun k=>[(5,I k)]) (fun _=>[]) 0 ⟨Nat.zero_le _,rfl⟩ (by exact Gh.W) ?_
      rintro k ⟨hk,he⟩
      simp only [setT,deT,setB,List.set_cons_succ,List.set_cons_zero]
      by_cases hlt:k < l.length
      · have q1:decide ((k:Int) < (l.length:Int))=true:=by simp;omega
        have q2:IntKind.i64.wrap ((k:Int) + 1)=((k + 1:Nat):Int):=wrap_i64 (by omega) (by omega)
        have hA:(l.map eAa)[k]? = some (eAa l[k]):=by rw [List.getElem?_map,List.getElem?_eq_getElem hlt];rfl
        rw [List.drop_eq_getElem_cons hlt,List.any_cons] at he
        generalize l[k]=a at *
        by_cases h3:1000 < a.bytes.length
        · have q3:decide ((1000:Int) < (a.bytes.length:Int))=true:=by simp;omega
          rw [decide_eq_true h3,Bool.true_or] at he
          rw [he]
          repeat' (first|((first|((with_reducible apply AP.k_any);first|refine AP.ST ?_|(refine AP.Y ?_;dsimp only)|refine AP.G (fun hg=>?_) (fun hg=>?_)|(refine AP.V (fun c hnil=>?_);simp only [nz])|refine AP.PF ?_))<;>(try simp only [q1,q2,q3,nq,Nat.reduceBEq,Nat.reduceAdd,Nat.reduceSub]))|refine CP.TL ?_|((with_reducible apply CP.k_reg);refine cp_regG fun Q' hQ'=>?_)|((with_reducible apply CP.k_cond);refine cp_cond rfl (fun hc=>?_) (fun hc=>?_))|(simp only [List.append_eq,List.cons_append,List.nil_append]))
          (exact RetQ.A [] (by exact ⟨rfl,rfl⟩))
        · have q3:decide ((1000:Int) < (a.bytes.length:Int))=false:=by simp;omega
          rw [decide_eq_false h3,Bool.false_or] at he
          repeat' (first|((first|((with_reducible apply AP.k_any);first|refine AP.ST ?_|(refine AP.Y ?_;dsimp only)|refine AP.G (fun hg=>?_) (fun hg=>?_)|(refine AP.V (fun c hnil=>?_);simp only [nz])|refine AP.PF ?_))<;>(try simp only [q1,q2,q3,nq,Nat.reduceBEq,Nat.reduceAdd,Nat.reduceSub]))|refine CP.TL ?_|((with_reducible apply CP.k_reg);refine cp_regG fun Q' hQ'=>?_)|((with_reducible apply CP.k_cond);refine cp_cond rfl (fun hc=>?_) (fun hc=>?_))|(simp only [List.append_eq,List.cons_append,List.nil_append]))
          exact ⟨k + 1,by omega,⟨by omega,he⟩,by exact Gh.W⟩
      · obtain rfl:k=l.length:=by omega
        have q1:decide ((l.length:Int) < (l.length:Int))=false:=by simp
        rw [List.drop_length] at he
        rw [he]
        repeat' (first|((first|((with_reducible apply AP.k_any);first|refine AP.ST ?_|(refine AP.Y ?_;dsimp only)|refine AP.G (fun hg=>?_) (fun hg=>?_)|(refine AP.V (fun c hnil=>?_);simp only [nz])|refine AP.PF ?_))<;>(try simp only [q1,nq,Nat.reduceBEq,Nat.reduceAdd,Nat.reduceSub]))|refine CP.TL ?_|((with_reducible apply CP.k_reg);refine cp_regG fun Q' hQ'=>?_)|((with_reducible apply CP.k_cond);refine cp_cond rfl (fun hc=>?_) (fun hc=>?_))|(simp only [List.append_eq,List.cons_append,List.nil_append]))
        (exact RetQ.A [] (by exact ⟨rfl,rfl⟩))
end Go.Proofs.YtmgneincjfhaoaaGreat

namespace Go.Proofs.YtmgneincjfhaoaaGreat
set_option linter.unusedVariables false
set_option linter.unusedSimpArgs false
open Go.RowKit
set_option maxRecDepth 100000
section
variable {X:Cx} {s:AS} {ops:Array Oper} {rest:List Oper} {Q:Exit→AS→Prop} {d:Option Nat} {ty:Nat} {pos:String} {aft:Array Edge} {T n e k:Nat} {i ie:TI}
theorem AP.BP {parts:Array (Nat×Operand)} {z:List ZC} {fl fl':List AV} {b':List Sl} {q:List (List AV)} (KK:AP Tryz.prog X ops Q rest (AS.put ⟨s.t,(newS b' (.r e k q)).2⟩ d (.hd (newS b' (.r e k q)).1.1 (newS b' (.r e k q)).1.2))) (hT:tt[T]? = some i:=by exact rfl) (hk:i.kd=.sl e:=by exact rfl) (he:tt[e]? = some ie:=by exact rfl) (hz:ie.zero=some z:=by exact rfl) (hsz:ie.size=k:=by exact rfl)
    (h1:Nat.ble 1 k=true:=by exact rfl) (h2:Nat.ble (n * k) 1000000=true:=by exact rfl) (h3:parts.toList.all (fun p=>(aev s p.2).known && ((aev s p.2).cells.length == k) && Nat.ble (p.1 * k + k) (n * k))=true:=by exact rfl) (hfl:bldA s k parts.toList (zrow z n)=fl:=by exact rfl) (hcl:ClsC s.b fl fl' b':=by ((repeat' (first|exact ClsC.nil|apply ClsC.nl|apply ClsC.leaf rfl|apply ClsC.hd rfl|apply ClsC.ob rfl|apply ClsC.mo rfl|apply ClsC.mp rfl|apply ClsC.hp rfl|exact Out.nil|apply Out.cons rfl|apply Out.r rfl|apply Out.f rfl|apply ClsC.fn|apply ClsC.fz rfl (ro_B _)|apply ClsC.fz rfl (ro_M _)|apply ClsC.fz rfl (ro_E _ _)|apply ClsC.fz rfl rfl));all_goals fail)) (hq:chunks k n fl'=q:=by exact rfl):AP Tryz.prog X ops Q (⟨d,.buildSlice T n parts,ty,pos,aft,none⟩ :: rest) s:=
  ap_buildSlice rfl rfl hT hk he hz hsz h1 h2 h3 hfl hcl hq KK
end
end Go.Proofs.YtmgneincjfhaoaaGreat

namespace Go.Proofs.YtmgneincjfhaoaaGreat
set_option linter.unusedVariables false
set_option linter.unusedSimpArgs false
set_option maxHeartbeats 8000000
open Go.RowKit
set_option maxRecDepth 100000
abbrev ndA (z:Int):Aa:=⟨0,z,0,0,[]⟩
def sdS (root:List UInt8) (ks:List Int):List Ends:=ks.map fun i=>⟨root,i,1,[],[]⟩
theorem greatA_of {root:List UInt8} {L:List Aa} (h:greatA root L=false):root.length≤100∧L.length≤60∧∀ a∈L,a.bytes.length≤1000:=by
  simp only [greatA,Bool.or_eq_false_iff,decide_eq_false_iff_not,List.any_eq_false,decide_eq_true_eq] at h
  exact ⟨by omega,by omega,fun a ha=>by have:=h.2 a ha;omega⟩
end Go.Proofs.YtmgneincjfhaoaaGreat

namespace Go.Proofs.YtmgneincjfhaoaaGreat
set_option linter.unusedVariables false
set_option linter.unusedSimpArgs false
theorem mayL_mem {c:Config}:∀ {l:List Member} {i:Nat},mayL c i l=true→∀ x∈l,(0≤x.node∧x.node < 5)∧1≤x.since∧x.since≤c.epoch
  | [],_,_,x,h=>by cases h
  | m :: l,i,h,x,hx=>by
    simp only [mayL,Bool.and_eq_true] at h
    rcases List.mem_cons.1 hx with rfl|hx
    · have h1:=h.1
      simp only [okM,thereS,Bool.and_eq_true,decide_eq_true_eq] at h1
      exact ⟨h1.1.1.1.1,h1.1.1.2,h1.1.2⟩
    · exact mayL_mem h.2 x hx
theorem allG_node:∀ {l:List Member} {n:Int} {k j:Nat},atG k l n < 0→allG (pNode n) j l=true
  | [],_,_,_,_=>rfl
  | m :: l,n,k,j,h=>by
    unfold atG at h
    split at h
    · omega
    · rename_i hne
      simp only [allG,Bool.and_eq_true]
      exact ⟨by simpa [pNode] using hne,allG_node h⟩
theorem mayL_pMem {c:Config}:∀ {l:List Member} {i:Nat},mayL c i l=true→allG (pMem c) i l=true
  | [],_,_=>rfl
  | m :: l,i,h=>by
    simp only [mayL,Bool.and_eq_true] at h
    simp only [allG,Bool.and_eq_true]
    refine ⟨?_,mayL_pMem h.2⟩
    have h1:=h.1
    simp only [okM,thereS,Bool.and_eq_true,decide_eq_true_eq] at h1
    simp only [pMem,Bool.and_eq_true,decide_eq_true_eq]
    exact ⟨⟨⟨⟨h1.1.1.1.1.1,h1.1.1.1.1.2⟩,h1.1.1.2⟩,h1.1.2⟩,allG_node h1.1.1.1.2⟩
theorem mayC_msg {c:Config} (h:mayC c=true):mayM (cfgMsg c)=true∧rng (cfgMsg c)∧1≤c.epoch∧c.epoch≤1099511627776:=by
  have h1:=mayC_of h
  simp only [mayC,Bool.and_eq_true] at h
  have h2:=mayL_mem h.2
  have z:I64 0:=by unfold I64;omega
  refine ⟨?_,⟨⟨z,z,z,z,z,z,z⟩,⟨by show I64 c.epoch;unfold I64;omega,fun x hx=>?_⟩,fun e he=>by cases he⟩,h1.1,h1.2.1⟩
  · have e:mayM (cfgMsg c)=(mayCfg c && noneM (bareCfg (cfgMsg c))):=rfl
    have e2:noneM (bareCfg (cfgMsg c))=true:=rfl
    rw [e,e2,Bool.and_true]
    simp only [mayCfg,Bool.and_eq_true,decide_eq_true_eq]
    exact ⟨⟨h1.1,h1.2.2.2⟩,mayL_pMem h.2⟩
  · have:=h2 x hx
    exact ⟨by unfold I64;omega,by unfold I64;omega⟩
theorem pkt_rg {E:Ends} {to ep:Int} {body:List UInt8} (hw:E.who=9) (hb:E.boot=1) (ht:0≤to∧to≤9) (he:1≤ep∧ep≤1099511627776) (hn:0≤got (to,ep) E.sent 0∧got (to,ep) E.sent 0≤1000000) (hl:body.length≤60000):(E.pkt to ep body).rg:=by
  unfold Pkt.rg I64 Ends.pkt
  dsimp only
  rw [hw,hb]
  exact ⟨⟨by omega,by omega,by omega,by omega,by omega⟩,hl⟩
theorem told_no {E e:Ends} {to ep:Int} {body:List UInt8} (hm:mayP (E.pkt to ep body)=true) (hp:(E.pkt to ep body).rg) (h:to≠e.who):toldS e (E.out to ep body)=(cfg0,false)∧(e.get (E.out to ep body)).2=e:=by
  have g:e.get (E.out to ep body)=((pk0,190),e):=by
    unfold Ends.out
    rw [get_tagged _ hm hp (tagS_len _ _)]
    exact if_pos h
  unfold toldS
  rw [g]
  exact ⟨if_pos (.inl (by show (190:Int)≠0;decide)),rfl⟩
theorem told_yes {E e:Ends} {to:Int} {c:Config} (hc:mayC c=true) (hm:mayP (E.pkt to c.epoch (formM (cfgMsg c)))=true) (hp:(E.pkt to c.epoch (formM (cfgMsg c))).rg) (h:to=e.who) (hr:e.root=E.root) (hw:E.who=9) (hb:E.boot=1)
    (hn:0≤got (to,c.epoch) E.sent 0∧got (to,c.epoch) E.sent 0≤1000000) (hl:Wl (got (9,c.epoch) e.wins Wn.new) (got (to,c.epoch) E.sent 0)) :
    ∃ w,Wl w (got (to,c.epoch) E.sent 0 + 1)∧toldS e (E.out to c.epoch (formM (cfgMsg c)))=(c,true)∧(e.get (E.out to c.epoch (formM (cfgMsg c)))).2={ e with wins:=puts (9,c.epoch) e.wins w } ∧
      toldS { e with wins:=puts (9,c.epoch) e.wins w } (E.out to c.epoch (formM (cfgMsg c)))=(cfg0,false)∧({ e with wins:=puts (9,c.epoch) e.wins w }:Ends).get (E.out to c.epoch (formM (cfgMsg c)))=((pk0,180),{ e with wins:=puts (9,c.epoch) (puts (9,c.epoch) e.wins w) w }):=by
  obtain ⟨h1,h2,h3⟩:=hl.take hn.1 hn.2
  obtain ⟨hmm,hrr,_⟩:=mayC_msg hc
  refine ⟨_,h2,?_⟩
  generalize hw2:(got (9,c.epoch) e.wins Wn.new).after 1 (got (to,c.epoch) E.sent 0 + 1)=w at *
  have f1:(E.pkt to c.epoch (formM (cfgMsg c))).frm=9:=hw
  have f2:(E.pkt to c.epoch (formM (cfgMsg c))).boot=1:=hb
  have f3:(E.pkt to c.epoch (formM (cfgMsg c))).seqn=got (to,c.epoch) E.sent 0 + 1:=rfl
  have f4:(E.pkt to c.epoch (formM (cfgMsg c))).epoch=c.epoch:=rfl
  have f5:(E.pkt to c.epoch (formM (cfgMsg c))).to=to:=rfl
  have f6:(E.pkt to c.epoch (formM (cfgMsg c))).body=formM (cfgMsg c):=rfl
  have g1:e.get (E.out to c.epoch (formM (cfgMsg c)))=(({ E.pkt to c.epoch (formM (cfgMsg c)) with tag:=tagS E.root (E.pkt to c.epoch (formM (cfgMsg c))) },0),{ e with wins:=puts (9,c.epoch) e.wins w }):=by
    unfold Ends.out
    rw [get_tagged _ hm hp (tagS_len _ _),f5,if_neg (by simp [h]),if_neg (by rw [hr];simp),f1,f2,f3,f4,h1]
    dsimp only
    rw [if_neg (by simp)]
    simp only [f1,f2,f3,f4,f5]
  have g2:({ e with wins:=puts (9,c.epoch) e.wins w }:Ends).get (E.out to c.epoch (formM (cfgMsg c)))=((pk0,180),{ e with wins:=puts (9,c.epoch) (puts (9,c.epoch) e.wins w) w }):=by
    unfold Ends.out
    rw [get_tagged _ hm hp (tagS_len _ _),f5,if_neg (by simp [h]),if_neg (by dsimp only;rw [hr];simp),f1,f2,f3,f4]
    dsimp only
    rw [got_puts,if_pos rfl,h3]
    dsimp only
    rw [if_pos (by decide)]
  refine ⟨?_,by rw [g1],?_,g2⟩
  · unfold toldS
    rw [g1]
    dsimp only
    rw [f1,f6,f4,parse_form hmm hrr,if_neg (by simp)]
    have e4:(cfgMsg c).kind=4:=rfl
    have e5:(cfgMsg c).cfg=c:=rfl
    rw [e4,e5]
    simp
  · unfold toldS
    rw [g2]
    exact if_pos (.inl (by show (180:Int)≠0;decide))
/-- those that are told: what they know of the master's numbers -/
structure Ai (root:List UInt8) (N:Nat→Sd→Int) (A:List Ends):Prop where
  len:A.length=6
  at_:∀ (k:Nat) (e:Ends),A[k]? = some e→e.root=root∧all6[k]? = some e.who∧(∀ q∈e.wins,q.2.ok)∧∀ ep,Wl (got (9,ep) e.wins Wn.new) (N k (e.who,ep))
theorem ask_out {x:Mst} {L:List Ends} {root:List UInt8} {i:Nat} (h:Mi root x L i) (hw:x.ends.who=9) (hb:x.ends.boot=1) (a:Aa) :
    (askS x L a).2.1.ends.who=9∧(askS x L a).2.1.ends.boot=1 ∧
    (((askS x L a).1=[]∧(askS x L a).2.1.ends.sent=x.ends.sent) ∨
     ((askS x L a).1=all6.map (fun to=>x.ends.out to (askS x L a).2.1.cfg.epoch (formM (cfgMsg (askS x L a).2.1.cfg)))∧∀ s,got s (askS x L a).2.1.ends.sent 0=if s.2=(askS x L a).2.1.cfg.epoch∧s.1∈all6 then got s x.ends.sent 0 + 1 else got s x.ends.sent 0)):=by
  have h3:∀ s,0≤got s x.ends.sent 0:=fun s=>(h.xf s).1
  have tk:∀ c:Config,mayC c=true→(Mst.tick { x with cfg:=c }).2.ends.who=9∧(Mst.tick { x with cfg:=c }).2.ends.boot=1∧(Mst.tick { x with cfg:=c }).2.cfg=c∧(Mst.tick { x with cfg:=c }).1=all6.map (fun to=>x.ends.out to c.epoch (formM (cfgMsg c))) ∧
      ∀ s,got s (Mst.tick { x with cfg:=c }).2.ends.sent 0=if s.2=c.epoch∧s.1∈all6 then got s x.ends.sent 0 + 1 else got s x.ends.sent 0:=fun c hc=>by
    obtain ⟨hmm,_,he,_⟩:=mayC_msg hc
    have:=tick_told (x:={ x with cfg:=c }) hmm he hw (by show 0≤x.ends.boot;omega) h3
    rw [this.1]
    exact ⟨hw,hb,rfl,rfl,this.2.2⟩
  have gs:∀ r:Config×Int,(r.2≠0∨Nx x.cfg r.1)→(x.goes r).2.ends.who=9∧(x.goes r).2.ends.boot=1∧(((x.goes r).1.1=[]∧(x.goes r).2.ends.sent=x.ends.sent) ∨
      ((x.goes r).1.1=all6.map (fun to=>x.ends.out to (x.goes r).2.cfg.epoch (formM (cfgMsg (x.goes r).2.cfg)))∧∀ s,got s (x.goes r).2.ends.sent 0=if s.2=(x.goes r).2.cfg.epoch∧s.1∈all6 then got s x.ends.sent 0 + 1 else got s x.ends.sent 0)):=fun r hr=>by
    unfold Mst.goes
    split
    · rename_i h0
      obtain ⟨t1,t2,t3,t4,t5⟩:=tk r.1 (hr.elim (fun h=>absurd h0 h) id).may
      refine ⟨t1,t2,.inr ⟨?_,?_⟩⟩
      · dsimp only;rw [t3];exact t4
      · dsimp only;rw [t3];exact t5
    · exact ⟨hw,hb,.inl ⟨rfl,rfl⟩⟩
  have gt:∀ b,(x.get b).2.ends.who=9∧(x.get b).2.ends.boot=1∧(x.get b).2.ends.sent=x.ends.sent:=fun b=>by
    obtain ⟨k1,k2,k3,k4⟩:=get_keep x.ends b
    unfold Mst.get
    dsimp only
    split
    · exact ⟨k2.trans hw,k3.trans hb,k4⟩
    · split<;>exact ⟨k2.trans hw,k3.trans hb,k4⟩
  unfold askS
  split
  · obtain ⟨t1,t2,t3,t4,t5⟩:=tk x.cfg h.may
    refine ⟨t1,t2,.inr ⟨?_,?_⟩⟩
    · dsimp only;rw [t3];exact t4
    · dsimp only;rw [t3];exact t5
  · exact gs _ (cAdd_two h.may a.n)
  · exact gs _ (cRemove_two a.n)
  · split
    · split
      · have:=gt (mwholeS ‹Ends› x.cfg.epoch (whoM x a.n).since).1
        exact ⟨this.1,this.2.1,.inl ⟨rfl,this.2.2⟩⟩
      · exact ⟨hw,hb,.inl ⟨rfl,rfl⟩⟩
    · exact ⟨hw,hb,.inl ⟨rfl,rfl⟩⟩
  · have:=gt a.bytes
    exact ⟨this.1,this.2.1,.inl ⟨rfl,this.2.2⟩⟩
end Go.Proofs.YtmgneincjfhaoaaGreat

namespace Go.Proofs.YtmgneincjfhaoaaGreat
set_option linter.unusedVariables false
set_option linter.unusedSimpArgs false
theorem six {j:Nat} (h:j < 6):all6[j]? = some (all6.getD j 0)∧whoS (all6.getD j 0)=true∧(0≤all6.getD j 0∧all6.getD j 0≤9)∧9≠all6.getD j 0∧all6.getD j 0∈all6∧all6[(j + 1) % 6]? ≠ some (all6.getD j 0):=by
  have:j=0∨j=1∨j=2∨j=3∨j=4∨j=5:=by omega
  rcases this with rfl|rfl|rfl|rfl|rfl|rfl<;>decide
theorem tells_step {root:List UInt8} {E:Ends} {c:Config} {N0 N1:Sd→Int} {A:List Ends} {j:Nat} (hj:j < 6) (hA:Ai root (fun k s=>if k < j then N1 s else N0 s) A) (hc:mayC c=true) (hr:E.root=root) (hw:E.who=9) (hb:E.boot=1)
    (h0:∀ s,N0 s=got s E.sent 0) (hn:∀ s,0≤N0 s∧N0 s≤1000) (h1:∀ s,N1 s=if s.2=c.epoch∧s.1∈all6 then N0 s + 1 else N0 s) {b:List UInt8} (hbb:b=E.out (all6.getD j 0) c.epoch (formM (cfgMsg c))) :
    ∃ e1 e e' e'':Ends,A[(j + 1) % 6]? = some e1∧A[j]? = some e∧toldS e1 b=(cfg0,false)∧(e1.get b).2=e1∧toldS e b=(c,true)∧(e.get b).2=e'∧toldS e' b=(cfg0,false)∧(e'.get b).2=e'' ∧
      (e1.root=root∧e.root=root∧e'.root=root)∧((∀ q∈e1.wins,q.2.ok)∧(∀ q∈e.wins,q.2.ok)∧∀ q∈e'.wins,q.2.ok)∧b.length≤60000∧Ai root (fun k s=>if k < j + 1 then N1 s else N0 s) (A.set j e''):=by
  subst hbb
  obtain ⟨s1,s2,s3,s4,s5,s6⟩:=six hj
  have hl:=hA.len
  obtain ⟨hmm,_,he1,he2⟩:=mayC_msg hc
  have hbl:(formM (cfgMsg c)).length≤59000:=Nat.le_trans (cfgMsg_len hmm) (by omega)
  generalize hto:all6.getD j 0=to at *
  have hN:0≤got (to,c.epoch) E.sent 0∧got (to,c.epoch) E.sent 0≤1000000:=by have:=hn (to,c.epoch);rw [h0] at this;omega
  have hm:mayP (E.pkt to c.epoch (formM (cfgMsg c)))=true:=may_pkt (by rw [hw];rfl) s2 (by rw [hw];exact s4) he1 (by omega) hN.1
  have hp:=pkt_rg (body:=formM (cfgMsg c)) hw hb s3 ⟨he1,he2⟩ hN (by omega)
  obtain ⟨e1,q1⟩:∃ e1,A[(j + 1) % 6]? = some e1:=⟨_,List.getElem?_eq_getElem (by omega)⟩
  obtain ⟨e,q2⟩:∃ e,A[j]? = some e:=⟨_,List.getElem?_eq_getElem (by omega)⟩
  obtain ⟨a1,a2,a3,a4⟩:=hA.at_ _ _ q1
  obtain ⟨b1,b2,b3,b4⟩:=hA.at_ _ _ q2
  have hne:to≠e1.who:=fun h=>s6 (by rw [a2,h])
  have heq:to=e.who:=by rw [s1] at b2;injection b2
  have hwl:Wl (got (9,c.epoch) e.wins Wn.new) (got (to,c.epoch) E.sent 0):=by
    have:=b4 c.epoch
    rw [if_neg (by omega),←heq,h0] at this
    exact this
  obtain ⟨t1,t2⟩:=told_no (body:=formM (cfgMsg c)) hm hp hne
  obtain ⟨w,u1,u2,u3,u4,u5⟩:=told_yes hc hm hp heq (b1.trans hr.symm) hw hb hN hwl
  have hok:∀ q∈puts (9,c.epoch) e.wins w,q.2.ok:=fun q hq=>by
    rcases puts_mem hq with hq|rfl
    · exact b3 q hq
    · exact u1.1
  refine ⟨e1,e,{ e with wins:=puts (9,c.epoch) e.wins w },{ e with wins:=puts (9,c.epoch) (puts (9,c.epoch) e.wins w) w },q1,q2,t1,t2,u2,u3,u4,by rw [u5],⟨a1,b1,b1⟩,⟨a3,b3,hok⟩,?_,?_⟩
  · show (headS _ ++ tagS _ _).length≤_
    rw [List.length_append,headS_len,tagS_len]
    show 44 + (formM (cfgMsg c)).length + 32≤_
    omega
  · refine ⟨by rw [List.length_set];exact hl,fun k f hk=>?_⟩
    rw [List.getElem?_set] at hk
    split at hk
    · rename_i hjk
      subst hjk
      rw [if_pos (by omega)] at hk
      injection hk with hk;subst hk
      refine ⟨b1,b2,fun q hq=>?_,fun ep=>?_⟩
      · rcases puts_mem hq with hq|rfl
        · exact hok q hq
        · exact u1.1
      · rw [if_pos (by omega),h1]
        dsimp only
        rw [got_puts,got_puts]
        by_cases hep:ep=c.epoch
        · subst hep
          rw [if_pos rfl,if_pos ⟨rfl,by rw [←heq];exact s5⟩,←heq,h0]
          exact u1
        · rw [if_neg (by simp [hep]),if_neg (by simp [hep]),if_neg (fun h=>hep h.1)]
          have:=b4 ep
          rw [if_neg (by omega)] at this
          exact this
    · rename_i hjk
      obtain ⟨c1,c2,c3,c4⟩:=hA.at_ _ _ hk
      refine ⟨c1,c2,c3,fun ep=>?_⟩
      have:=c4 ep
      by_cases hkj:k < j
      · rw [if_pos (by omega)];rw [if_pos hkj] at this;exact this
      · rw [if_neg (by omega)];rw [if_neg hkj] at this;exact this
end Go.Proofs.YtmgneincjfhaoaaGreat

namespace Go.Proofs.YtmgneincjfhaoaaGreat
set_option linter.unusedVariables false
set_option linter.unusedSimpArgs false
set_option maxHeartbeats 8000000
open Go.RowKit
set_option maxRecDepth 100000
theorem sd6_succ (root:List UInt8) {j:Nat} (h:j < 6):(sdS root (all6.take (j + 1))).map obE=(sdS root (all6.take j)).map obE ++ [[.ob tEn (enE ⟨root,all6.getD j 0,1,[],[]⟩)]]:=by
  have e:all6.take (j + 1)=all6.take j ++ [all6.getD j 0]:=by
    rw [List.take_succ_eq_append_getElem (by simpa using h),List.getD_eq_getElem?_getD,List.getElem?_eq_getElem (by simpa using h)];rfl
  unfold sdS;rw [e,List.map_append,List.map_append];rfl
theorem sd6_len (root:List UInt8) {j:Nat} (h:j≤6):(sdS root (all6.take j)).length=j:=by
  unfold sdS;rw [List.length_map,List.length_take];show min j 6=j;omega
/-- the law's state, round by round -/
structure Ts where
  i:Nat
  w:Nat
  a:Nat
  b:Nat
  c:Nat
  d:Nat
  e:Nat
  f:Nat
  x:Mst
  S:List Ends
  A:List Ends
structure Tsi (root:List UInt8) (t:Ts):Prop where
  mi:Mi root t.x t.S t.i
  l:t.S.length=6
  who:t.x.ends.who=9
  boot:t.x.ends.boot=1
  al:Ai root (fun _ s=>got s t.x.ends.sent 0) t.A
structure Tj where
  j:Nat
  w:Nat
  a:Nat
  b:Nat
  c:Nat
  d:Nat
  e:Nat
  f:Nat
  A:List Ends
theorem tells_big (root:List UInt8) (nodes:Int) (L:List Aa) (hl:L.length≤100000000) (hg:greatA root L=true∨40 < L.length):AC Tryz.prog 5 [bs none root,I nodes,asA L] [] (fun v bs'=>v=B true∧bs'=[]):=by
  have g:=great26_ac root L hl
  have h1:=mastawake_ac
  cases hg2:greatA root L with
  | true=>
    rw [hg2] at g
    refine AC.N Tryz.func5 Tryz.ntmps5 ?_
    intro X hρ hmks
    refine NX ?_
    repeat' (first|((first|((with_reducible apply AP.k_any);first|refine AP.ST ?_|(refine AP.Y ?_;dsimp only)|refine AP.G (fun hg=>?_) (fun hg=>?_)|(refine AP.V (fun c hnil=>?_);simp only [nz])|refine AP.PF ?_)|((with_reducible apply DW.k_any);first|refine DW.ST ?_|((fail_if_success refine DW.known rfl ?_);refine DW.G (fun hg=>?_) (fun hg=>?_))))<;>(try simp only [nq,Nat.reduceBEq,Nat.reduceAdd,Nat.reduceSub]))|refine CP.TL ?_|((with_reducible apply CP.k_drw);refine cp_drwX fun Q' hQ'=>?_)|((with_reducible apply CP.k_reg);refine cp_regG fun Q' hQ'=>?_)|((with_reducible apply CP.k_cond);refine cp_cond rfl (fun hc=>?_) (fun hc=>?_))|(simp only [List.append_eq,List.cons_append,List.nil_append]))
    (exact RetQ.A [] (by exact ⟨rfl,rfl⟩))
  | false=>
    rw [hg2] at g
    have d1:decide ((40:Int) < (L.length:Int))=true:=by
      rcases hg with h|h
      · rw [hg2] at h;cases h
      · simp;omega
    refine AC.N Tryz.func5 Tryz.ntmps5 ?_
    intro X hρ hmks
    refine NX ?_
    repeat' (first|((first|((with_reducible apply AP.k_any);first|refine AP.ST ?_|(refine AP.Y ?_;dsimp only)|refine AP.G (fun hg=>?_) (fun hg=>?_)|(refine AP.V (fun c hnil=>?_);simp only [nz])|refine AP.PF ?_)|((with_reducible apply DW.k_any);first|refine DW.ST ?_|((fail_if_success refine DW.known rfl ?_);refine DW.G (fun hg=>?_) (fun hg=>?_))))<;>(try simp only [d1,nq,Nat.reduceBEq,Nat.reduceAdd,Nat.reduceSub]))|refine CP.TL ?_|((with_reducible apply CP.k_drw);refine cp_drwX fun Q' hQ'=>?_)|((with_reducible apply CP.k_reg);refine cp_regG fun Q' hQ'=>?_)|((with_reducible apply CP.k_cond);refine cp_cond rfl (fun hc=>?_) (fun hc=>?_))|(simp only [List.append_eq,List.cons_append,List.nil_append]))
    (exact RetQ.A [] (by exact ⟨rfl,rfl⟩))
theorem tells_go (root:List UInt8) (nodes:Int) (L:List Aa) (hl:L.length≤40) (hg:greatA root L=false):AC Tryz.prog 5 [bs none root,I nodes,asA L] [] (fun v bs'=>v=B true∧bs'=[]):=by
  have g:=great26_ac root L (by omega)
  rw [hg] at g
  obtain ⟨hr,_,hb⟩:=greatA_of hg
  have d1:decide ((40:Int) < (L.length:Int))=false:=by simp;omega
  have k5:=(ndA nodes).n_lt
  have q1:IntKind.i64.wrap ((IntKind.u64.wrap nodes).tmod 5)=((ndA nodes).n:Int):=(ndA nodes).n_eq
  generalize (ndA nodes).n=k at *
  have q2:IntKind.i64.wrap (1 + (k:Int))=((k + 1:Nat):Int):=by rw [wrap_i64 (by omega) (by omega)];omega
  have n0:=mnew_ok root ((k + 1:Nat):Int) (by omega) (by omega)
  dsimp only [Int.toNat_natCast] at n0
  have hM0:mayC ⟨1,fm (k + 1)⟩=true:=by
    have hk:k=0∨k=1∨k=2∨k=3∨k=4:=by omega
    rcases hk with rfl|rfl|rfl|rfl|rfl<;>rfl
  generalize fm (k + 1)=M at *
  refine AC.N Tryz.func5 Tryz.ntmps5 ?_
  intro X hρ hmks
  refine NX ?_
  repeat' (first|((first|((with_reducible apply AP.k_any);first|refine AP.ST ?_|(refine AP.Y ?_;dsimp only)|refine AP.G (fun hg=>?_) (fun hg=>?_)|(refine AP.V (fun c hnil=>?_);simp only [nz])|((with_reducible apply AP.k_any);refine AP.B 1 (n0) ?_)|refine AP.PF ?_)|((with_reducible apply DW.k_any);first|refine DW.ST ?_|((fail_if_success refine DW.known rfl ?_);refine DW.G (fun hg=>?_) (fun hg=>?_)))|((with_reducible apply DW.k_any);first|refine DW.R ?_|refine DW.R' ?_|refine DW.W ?_|refine DW.W' ?_|(refine DW.known rfl ?_;(with_reducible first|apply DW.sx 2|apply DW.sxN 2);(iterate 2 (focus (simp only [ft,nm,Nat.reduceAdd,Nat.reduceBEq,List.getElem?_cons_zero,List.getElem?_cons_succ];exact rfl)));(focus (intro X V;simp only [ft,nm,Nat.reduceAdd,Nat.reduceBEq];(try (refine AP.Y ?_;dsimp only));(first|((with_reducible apply AP.k_any);refine AP.B 1 (n0) ?_)|fail);(try refine NX ?_);refine AP.nil ?_;(first|refine ⟨trivial,rfl,?_⟩|refine ⟨rfl,rfl,?_⟩);(repeat' (first|exact Mg.nil|apply Mg.keep rfl|apply Mg.take rfl));done));(focus (refine Exists.intro (fun _=>0) ?_;apply Exists.intro;(repeat' (first|exact Mg.nil|apply Mg.keep rfl|apply Mg.take rfl));done));(iterate 2 (focus (exact rfl))))|((fail_if_success refine DW.known rfl ?_);refine DW.G (fun hg=>?_) (fun hg=>?_))))<;>(try simp only [q1,q2,d1,nq,Nat.reduceBEq,Nat.reduceAdd,Nat.reduceSub]))|refine CP.TL ?_|((with_reducible apply CP.k_drw);refine cp_drwX fun Q' hQ'=>?_)|((with_reducible apply CP.k_reg);refine cp_regG fun Q' hQ'=>?_)|((with_reducible apply CP.k_cond);refine cp_cond rfl (fun hc=>?_) (fun hc=>?_))|(simp only [List.append_eq,List.cons_append,List.nil_append]))
  refine CP.gh (gh_nil (t:=9) (e:=tEp) (k:=1) rfl) ?_
  refine CP.gh (gh_nil (t:=10) (e:=tEp) (k:=1) rfl) ?_
  refine NX ?_
  clear n0 g
  refine CP.gh gh_slot ?_;refine NX ?_
  refine CP.gh gh_slot ?_;refine NX ?_
  refine CP.gh gh_slot ?_;refine NX ?_
  refine cp_loopS [9,10,11,12,47,48,49,50,51,52,53,54,55,56,57,58,59,60,61,62,63,64,65] (fun a:Nat=>6 - a) (fun a=>a≤6) (fun a=>[(11,I a),(9,.hd 4 (a + 1)),(10,.hd 5 (a + 1))])
    (fun a=>[(4,⟨a + 1,.r tEp 1 ((sdS root (all6.take a)).map obE)⟩),(5,⟨a + 1,.r tEp 1 ((sdS root (all6.take a)).map obE)⟩),(6,⟨4 * a,.x⟩),(7,⟨2 * a,.x⟩),(8,⟨2 * a,.x⟩)]) 0 (by omega) (by exact Gh.W) ?_
  rintro j hj
  simp only [setT,deT,setB,List.set_cons_succ,List.set_cons_zero]
  by_cases hlt:j < 6
  · have p1:decide ((j:Int) < 6)=true:=by simp;omega
    have p2:IntKind.i64.wrap ((j:Int) + 1)=((j + 1:Nat):Int):=wrap_i64 (by omega) (by omega)
    have n1:=lnew_ac root (all6.getD j 0) 1 (by omega)
    have hx:=sd6_succ root hlt
    have hll:((sdS root (all6.take j)).map obE).length + 1≤1000000000:=by rw [List.length_map,sd6_len root hj];omega
    by_cases h5:j=5
    · subst h5
      have p3:(((5:Nat):Int) == 5)=true:=rfl
      rw [show all6.getD 5 0=8 from rfl] at n1 hx
      repeat' (first|((first|((with_reducible apply AP.k_any);first|fail|((with_reducible apply AP.k_any);refine AP.BP ?_)|((with_reducible apply AP.k_any);refine AP.B 1 (n1) ?_)|refine AP.ST ?_|(refine AP.Y ?_;dsimp only)|refine AP.G (fun hg=>?_) (fun hg=>?_)|(refine AP.V (fun c hnil=>?_);simp only [nz])|refine AP.PF ?_)|((with_reducible apply DW.k_any);first|refine DW.ST ?_|((fail_if_success refine DW.known rfl ?_);refine DW.G (fun hg=>?_) (fun hg=>?_)))|((with_reducible apply DW.k_any);first|refine DW.R ?_|refine DW.R' ?_|refine DW.W ?_|refine DW.W' ?_|(refine DW.known rfl ?_;(with_reducible first|apply DW.sx 2|apply DW.sxN 2);(iterate 2 (focus (simp only [ft,nm,Nat.reduceAdd,Nat.reduceBEq,List.getElem?_cons_zero,List.getElem?_cons_succ];exact rfl)));(focus (intro X V;simp only [ft,nm,Nat.reduceAdd,Nat.reduceBEq];(try (refine AP.Y ?_;dsimp only));(first|((with_reducible apply AP.k_any);refine AP.BP ?_)|((with_reducible apply AP.k_any);refine AP.B 1 (n1) ?_)|fail);(try refine NX ?_);refine AP.nil ?_;(first|refine ⟨trivial,rfl,?_⟩|refine ⟨rfl,rfl,?_⟩);(repeat' (first|exact Mg.nil|apply Mg.keep rfl|apply Mg.take rfl));done));(focus (refine Exists.intro (fun _=>0) ?_;apply Exists.intro;(repeat' (first|exact Mg.nil|apply Mg.keep rfl|apply Mg.take rfl));done));(iterate 2 (focus (exact rfl))))|((fail_if_success refine DW.known rfl ?_);refine DW.G (fun hg=>?_) (fun hg=>?_))))<;>(try simp only [p1,p2,p3,nq,Nat.reduceBEq,Nat.reduceAdd,Nat.reduceSub]))|refine CP.TL ?_|((with_reducible apply CP.k_drw);refine cp_drwX fun Q' hQ'=>?_)|((with_reducible apply CP.k_reg);refine cp_regG fun Q' hQ'=>?_)|((with_reducible apply CP.k_cond);refine cp_cond rfl (fun hc=>?_) (fun hc=>?_))|(simp only [List.append_eq,List.cons_append,List.nil_append]))
      refine ⟨5 + 1,by omega,by omega,?_⟩
      simp only [hx]
      exact Gh.W
    · have p3:((j:Int) == 5)=false:=beq_eq_false_iff_ne.2 (by omega)
      rw [show all6.getD j 0=(j:Int) from by
        have:j=0∨j=1∨j=2∨j=3∨j=4:=by omega
        rcases this with rfl|rfl|rfl|rfl|rfl<;>rfl] at n1 hx
      repeat' (first|((first|((with_reducible apply AP.k_any);first|fail|((with_reducible apply AP.k_any);refine AP.BP ?_)|((with_reducible apply AP.k_any);refine AP.B 1 (n1) ?_)|refine AP.ST ?_|(refine AP.Y ?_;dsimp only)|refine AP.G (fun hg=>?_) (fun hg=>?_)|(refine AP.V (fun c hnil=>?_);simp only [nz])|refine AP.PF ?_)|((with_reducible apply DW.k_any);first|refine DW.ST ?_|((fail_if_success refine DW.known rfl ?_);refine DW.G (fun hg=>?_) (fun hg=>?_)))|((with_reducible apply DW.k_any);first|refine DW.R ?_|refine DW.R' ?_|refine DW.W ?_|refine DW.W' ?_|(refine DW.known rfl ?_;(with_reducible first|apply DW.sx 2|apply DW.sxN 2);(iterate 2 (focus (simp only [ft,nm,Nat.reduceAdd,Nat.reduceBEq,List.getElem?_cons_zero,List.getElem?_cons_succ];exact rfl)));(focus (intro X V;simp only [ft,nm,Nat.reduceAdd,Nat.reduceBEq];(try (refine AP.Y ?_;dsimp only));(first|((with_reducible apply AP.k_any);refine AP.BP ?_)|((with_reducible apply AP.k_any);refine AP.B 1 (n1) ?_)|fail);(try refine NX ?_);refine AP.nil ?_;(first|refine ⟨trivial,rfl,?_⟩|refine ⟨rfl,rfl,?_⟩);(repeat' (first|exact Mg.nil|apply Mg.keep rfl|apply Mg.take rfl));done));(focus (refine Exists.intro (fun _=>0) ?_;apply Exists.intro;(repeat' (first|exact Mg.nil|apply Mg.keep rfl|apply Mg.take rfl));done));(iterate 2 (focus (exact rfl))))|((fail_if_success refine DW.known rfl ?_);refine DW.G (fun hg=>?_) (fun hg=>?_))))<;>(try simp only [p1,p2,p3,nq,Nat.reduceBEq,Nat.reduceAdd,Nat.reduceSub]))|refine CP.TL ?_|((with_reducible apply CP.k_drw);refine cp_drwX fun Q' hQ'=>?_)|((with_reducible apply CP.k_reg);refine cp_regG fun Q' hQ'=>?_)|((with_reducible apply CP.k_cond);refine cp_cond rfl (fun hc=>?_) (fun hc=>?_))|(simp only [List.append_eq,List.cons_append,List.nil_append]))
      refine ⟨j + 1,by omega,by omega,?_⟩
      simp only [hx]
      exact Gh.W
  · obtain rfl:j=6:=by omega
    have p1:decide (((6:Nat):Int) < 6)=false:=rfl
    repeat' (first|((first|((with_reducible apply AP.k_any);first|refine AP.ST ?_|(refine AP.Y ?_;dsimp only)|refine AP.G (fun hg=>?_) (fun hg=>?_)|(refine AP.V (fun c hnil=>?_);simp only [nz])|refine AP.PF ?_))<;>(try simp only [p1,nq,Nat.reduceBEq,Nat.reduceAdd,Nat.reduceSub]))|refine CP.TN ?_|((with_reducible apply CP.k_reg);refine cp_regG fun Q' hQ'=>?_)|((with_reducible apply CP.k_cond);refine cp_cond rfl (fun hc=>?_) (fun hc=>?_))|(simp only [List.append_eq,List.cons_append,List.nil_append]))
    refine CP.gh gh_slot ?_;refine NX ?_
    refine CP.gh gh_slot ?_;refine NX ?_
    refine CP.gh gh_slot ?_;refine NX ?_
    refine cp_loopS [6,13,14,15,16,17,18,19,20,21,66,67,68,69,70,71,72,73,74,75,76,77,78,79,80,81,82,83,84,85,86,87,88,89,90,91,92,93,94,95,96,97,98,99,100,101,102,103,104,105,106,107,108,109,110,111,112,113,114,115,116,117,118,119,120,121,122,123,124,125,126,127,128,129,130,131,132,133,134,135,136,137,138,139,140,141,142,143,144,145] (fun a:Ts=>L.length - a.i) (fun a=>a.i≤L.length∧Tsi root a) (fun a=>[(13,I a.i)])
      (fun a=>[(0,⟨1,.c tMs [I a.x.cfg.epoch,ms none a.x.cfg.members,.bp 3 a.w 0]⟩),(1,⟨a.w,.m (keyN a.x.ends.sent) (rowN a.x.ends.sent) none none⟩),(2,⟨a.w,.m (keyW a.x.ends.wins) (rowW a.x.ends.wins) none none⟩),
        (3,⟨a.w,.c tEn [B true,bs none a.x.ends.root,I a.x.ends.who,I a.x.ends.boot,.hd 1 a.w,.hd 2 a.w]⟩),(4,⟨7,.r tEp 1 (a.S.map obE)⟩),(5,⟨7,.r tEp 1 (a.A.map obE)⟩),(6,⟨a.a,.x⟩),(7,⟨a.b,.x⟩),(8,⟨a.c,.x⟩),(9,⟨a.d,.x⟩),(10,⟨a.e,.x⟩),(11,⟨a.f,.x⟩)]) ⟨0,1,4 * 6,2 * 6,2 * 6,0,0,0,⟨⟨1,M⟩,⟨root,9,1,[],[]⟩⟩,sdS root (all6.take 6),sdS root (all6.take 6)⟩ ?_ (by exact Gh.W) ?_
    · refine ⟨Nat.zero_le _,⟨hM0,rfl,fit0 _ _ _ _ (by omega),fun q hq=>(by cases hq),fun e he=>?_⟩,sd6_len root (Nat.le_refl _),rfl,rfl,sd6_len root (Nat.le_refl _),fun k e he=>?_⟩
      · obtain ⟨w,hw,rfl⟩:=List.mem_map.1 he
        exact ⟨rfl,fit0 _ _ _ _ (by omega)⟩
      · unfold sdS at he
        rw [List.getElem?_map] at he
        obtain ⟨w,hw,rfl⟩:=Option.map_eq_some_iff.1 he
        exact ⟨rfl,hw,fun q hq=>(by cases hq),fun ep=>Wl.new _⟩
    rintro ⟨i,w,va,vb,vc,vd,ve,vf,x,S,A⟩ ⟨hi,hT⟩
    simp only [setT,deT,setB,List.set_cons_succ,List.set_cons_zero]
    dsimp only at hi
    by_cases hil:i < L.length
    · have p1:decide ((i:Int) < (L.length:Int))=true:=by simp;omega
      have p2:IntKind.i64.wrap ((i:Int) + 1)=((i + 1:Nat):Int):=wrap_i64 (by omega) (by omega)
      have hA:(L.map eAa)[i]? = some (eAa L[i]):=by rw [List.getElem?_map,List.getElem?_eq_getElem hil];rfl
      have hbi:=hb _ (List.getElem_mem hil)
      generalize L[i]=a at *
      obtain ⟨hI,hS,hwho,hboot,hAl⟩:=hT
      dsimp only at hI hS hwho hboot hAl
      have hm5:=mayC_of hI.may
      have hx:=hI.xr
      have h2:=ask_ac (x:=x) (L:=S) (a:=a) ⟨by omega,by rw [hx];omega,fit_up hI.xf (by omega),hI.xw,.inr hS,fun e he=>⟨by rw [(hI.l e he).1];omega,fit_up (hI.l e he).2 (by omega)⟩,hbi⟩
      obtain ⟨hJ,hN,hS2⟩:=hI.ask a
      obtain ⟨hw2,hb2,hout⟩:=ask_out hI hwho hboot a
      rw [hS] at hS2
      generalize askS x S a=R at *
      obtain ⟨out,y,S'⟩:=R
      dsimp only [eAa] at hA h2 hJ hN hS2 hw2 hb2 hout
      have hy5:=mayC_of hJ.may
      rcases hout with ⟨rfl,hs0⟩|⟨ho,hs1⟩
      · have p3:(((0:Nat):Int) != 0)=false:=rfl
        have p4:decide ((0:Int) < ((0:Nat):Int))=false:=rfl
        repeat' (first|((first|((with_reducible apply AP.k_any);first|refine AP.ST ?_|(refine AP.Y ?_;dsimp only)|refine AP.G (fun hg=>?_) (fun hg=>?_)|(refine AP.V (fun c hnil=>?_);simp only [nz])|((with_reducible apply AP.k_any);refine AP.B 0 (h2) ?_)|refine AP.PF ?_)|((with_reducible apply DW.k_any);first|refine DW.ST ?_|((fail_if_success refine DW.known rfl ?_);refine DW.G (fun hg=>?_) (fun hg=>?_)))|((with_reducible apply DW.k_any);first|refine DW.R ?_|refine DW.R' ?_|refine DW.W ?_|refine DW.W' ?_|(refine DW.known rfl ?_;(with_reducible first|apply DW.sx 2|apply DW.sxN 2);(iterate 2 (focus (simp only [ft,nm,Nat.reduceAdd,Nat.reduceBEq,List.getElem?_cons_zero,List.getElem?_cons_succ];exact rfl)));(focus (intro X V;simp only [ft,nm,Nat.reduceAdd,Nat.reduceBEq];(try (refine AP.Y ?_;dsimp only));(first|((with_reducible apply AP.k_any);refine AP.B 0 (h2) ?_)|fail);(try refine NX ?_);refine AP.nil ?_;(first|refine ⟨trivial,rfl,?_⟩|refine ⟨rfl,rfl,?_⟩);(repeat' (first|exact Mg.nil|apply Mg.keep rfl|apply Mg.take rfl));done));(focus (refine Exists.intro (fun _=>0) ?_;apply Exists.intro;(repeat' (first|exact Mg.nil|apply Mg.keep rfl|apply Mg.take rfl));done));(iterate 2 (focus (exact rfl))))|((fail_if_success refine DW.known rfl ?_);refine DW.G (fun hg=>?_) (fun hg=>?_))))<;>(try simp only [p1,p2,p3,p4,List.length_nil,List.map_nil,nq,Nat.reduceBEq,Nat.reduceAdd,Nat.reduceSub]))|refine CP.TL ?_|((with_reducible apply CP.k_drw);refine cp_drwX fun Q' hQ'=>?_)|((with_reducible apply CP.k_reg);refine cp_regG fun Q' hQ'=>?_)|((with_reducible apply CP.k_cond);refine cp_cond rfl (fun hc=>?_) (fun hc=>?_))|(simp only [List.append_eq,List.cons_append,List.nil_append]))
        refine cp_rounds 1 ?_
        repeat' (first|((first|((with_reducible apply AP.k_any);first|refine AP.ST ?_|(refine AP.Y ?_;dsimp only)|refine AP.G (fun hg=>?_) (fun hg=>?_)|(refine AP.V (fun c hnil=>?_);simp only [nz])|((with_reducible apply AP.k_any);refine AP.B 0 (h2) ?_)|refine AP.PF ?_)|((with_reducible apply DW.k_any);first|refine DW.ST ?_|((fail_if_success refine DW.known rfl ?_);refine DW.G (fun hg=>?_) (fun hg=>?_)))|((with_reducible apply DW.k_any);first|refine DW.R ?_|refine DW.R' ?_|refine DW.W ?_|refine DW.W' ?_|(refine DW.known rfl ?_;(with_reducible first|apply DW.sx 2|apply DW.sxN 2);(iterate 2 (focus (simp only [ft,nm,Nat.reduceAdd,Nat.reduceBEq,List.getElem?_cons_zero,List.getElem?_cons_succ];exact rfl)));(focus (intro X V;simp only [ft,nm,Nat.reduceAdd,Nat.reduceBEq];(try (refine AP.Y ?_;dsimp only));(first|((with_reducible apply AP.k_any);refine AP.B 0 (h2) ?_)|fail);(try refine NX ?_);refine AP.nil ?_;(first|refine ⟨trivial,rfl,?_⟩|refine ⟨rfl,rfl,?_⟩);(repeat' (first|exact Mg.nil|apply Mg.keep rfl|apply Mg.take rfl));done));(focus (refine Exists.intro (fun _=>0) ?_;apply Exists.intro;(repeat' (first|exact Mg.nil|apply Mg.keep rfl|apply Mg.take rfl));done));(iterate 2 (focus (exact rfl))))|((fail_if_success refine DW.known rfl ?_);refine DW.G (fun hg=>?_) (fun hg=>?_))))<;>(try simp only [p1,p2,p3,p4,List.length_nil,List.map_nil,nq,Nat.reduceBEq,Nat.reduceAdd,Nat.reduceSub]))|refine CP.TL ?_|((with_reducible apply CP.k_drw);refine cp_drwX fun Q' hQ'=>?_)|((with_reducible apply CP.k_reg);refine cp_regG fun Q' hQ'=>?_)|((with_reducible apply CP.k_cond);refine cp_cond rfl (fun hc=>?_) (fun hc=>?_))|(simp only [List.append_eq,List.cons_append,List.nil_append]))
        exact ⟨⟨i + 1,w + 1,va,vb,vc,vd,ve,vf,y,S',A⟩,by (dsimp only;omega),⟨by (dsimp only;omega),hJ,hS2,hw2,hb2,by dsimp only;rw [hs0];exact hAl⟩,by exact Gh.W⟩
      · have hlo:out.length=6:=by rw [ho,List.length_map];rfl
        have p3:(((6:Nat):Int) != 0)=true:=rfl
        have p4:(((6:Nat):Int) != 6)=false:=rfl
        repeat' (first|((first|((with_reducible apply AP.k_any);first|refine AP.ST ?_|(refine AP.Y ?_;dsimp only)|refine AP.G (fun hg=>?_) (fun hg=>?_)|(refine AP.V (fun c hnil=>?_);simp only [nz])|((with_reducible apply AP.k_any);refine AP.B 0 (h2) ?_)|refine AP.PF ?_)|((with_reducible apply DW.k_any);first|refine DW.ST ?_|((fail_if_success refine DW.known rfl ?_);refine DW.G (fun hg=>?_) (fun hg=>?_)))|((with_reducible apply DW.k_any);first|refine DW.R ?_|refine DW.R' ?_|refine DW.W ?_|refine DW.W' ?_|(refine DW.known rfl ?_;(with_reducible first|apply DW.sx 2|apply DW.sxN 2);(iterate 2 (focus (simp only [ft,nm,Nat.reduceAdd,Nat.reduceBEq,List.getElem?_cons_zero,List.getElem?_cons_succ];exact rfl)));(focus (intro X V;simp only [ft,nm,Nat.reduceAdd,Nat.reduceBEq];(try (refine AP.Y ?_;dsimp only));(first|((with_reducible apply AP.k_any);refine AP.B 0 (h2) ?_)|fail);(try refine NX ?_);refine AP.nil ?_;(first|refine ⟨trivial,rfl,?_⟩|refine ⟨rfl,rfl,?_⟩);(repeat' (first|exact Mg.nil|apply Mg.keep rfl|apply Mg.take rfl));done));(focus (refine Exists.intro (fun _=>0) ?_;apply Exists.intro;(repeat' (first|exact Mg.nil|apply Mg.keep rfl|apply Mg.take rfl));done));(iterate 2 (focus (exact rfl))))|((fail_if_success refine DW.known rfl ?_);refine DW.G (fun hg=>?_) (fun hg=>?_))))<;>(try simp only [p1,p2,p3,p4,hlo,nq,Nat.reduceBEq,Nat.reduceAdd,Nat.reduceSub]))|refine CP.TL ?_|((with_reducible apply CP.k_drw);refine cp_drwX fun Q' hQ'=>?_)|((with_reducible apply CP.k_reg);refine cp_regG fun Q' hQ'=>?_)|((with_reducible apply CP.k_cond);refine cp_cond rfl (fun hc=>?_) (fun hc=>?_))|(simp only [List.append_eq,List.cons_append,List.nil_append]))
        clear h2 hA
        refine cp_loopS [6,15,16,17,18,19,20,21,87,88,89,90,91,92,93,94,95,96,97,98,99,100,101,102,103,104,105,106,107,108,109,110,111,112,113,114,115,116,117,118,119,120,121,122,123,124,125,126,127,128,129,130,131,132,133,134,135,136,137,138,139,140,141,142,143,144,145] (fun t:Tj=>6 - t.j) (fun t=>t.j≤6∧Ai root (fun k s=>if k < t.j then got s y.ends.sent 0 else got s x.ends.sent 0) t.A) (fun t=>[(15,I t.j)])
          (fun t=>[(0,⟨1,.c tMs [I y.cfg.epoch,ms none y.cfg.members,.bp 3 t.w 0]⟩),(1,⟨t.w,.m (keyN y.ends.sent) (rowN y.ends.sent) none none⟩),(2,⟨t.w,.m (keyW y.ends.wins) (rowW y.ends.wins) none none⟩),
            (3,⟨t.w,.c tEn [B true,bs none y.ends.root,I y.ends.who,I y.ends.boot,.hd 1 t.w,.hd 2 t.w]⟩),(5,⟨7,.r tEp 1 (t.A.map obE)⟩),(6,⟨t.a,.x⟩),(7,⟨t.b,.x⟩),(8,⟨t.c,.x⟩),(9,⟨t.d,.x⟩),(10,⟨t.e,.x⟩),(11,⟨t.f,.x⟩)]) ⟨0,w + 1,va,vb,vc,vd,ve,vf,A⟩ ⟨Nat.zero_le _,hAl⟩ (by exact Gh.W) ?_
        rintro ⟨j,w,va,vb,vc,vd,ve,vf,A⟩ ⟨hj,hAj⟩
        simp only [setT,deT,setB,List.set_cons_succ,List.set_cons_zero]
        dsimp only at hj hAj
        by_cases hlt:j < 6
        · have r1:decide ((j:Int) < ((6:Nat):Int))=true:=by simp;omega
          have r2:IntKind.i64.wrap ((j:Int) + 1)=((j + 1:Nat):Int):=wrap_i64 (by omega) (by omega)
          have r3:(((j + 1:Nat):Int)).tmod 6=(((j + 1) % 6:Nat):Int):=by rw [Int.tmod_eq_emod_of_nonneg (by omega)];omega
          obtain ⟨b,hbb⟩:∃ b,b=x.ends.out (all6.getD j 0) y.cfg.epoch (formM (cfgMsg y.cfg)):=⟨_,rfl⟩
          obtain ⟨e1,e,e',e2,f1,f2,t1,g1,t2,g2,t3,g3,⟨k1,k2,k3⟩,⟨o1,o2,o3⟩,hbl,hAi⟩:=tells_step hlt hAj hJ.may hx hwho hboot (fun _=>rfl) (fun s=>by have:=hI.xf s;omega) hs1 hbb
          have hob:(out.map eS)[j]? = some (eS b):=by
            rw [List.getElem?_map,ho,List.getElem?_map,(six hlt).1,hbb];rfl
          have T1:=told_ac e1 b hbl (by rw [k1];omega) o1
          rw [t1,g1] at T1
          dsimp only at T1
          have hm:(j + 1) % 6 < 6:=by omega
          generalize (j + 1) % 6=m at *
          have hro1:(A.map obE)[m]? = some [.ob tEn (enE e1)]:=by rw [List.getElem?_map,f1];rfl
          have hro2:(A.map obE)[j]? = some [.ob tEn (enE e)]:=by rw [List.getElem?_map,f2];rfl
          have hse1:(A.map obE).set m [.ob tEn (enE e1)]=A.map obE:=by
            apply List.ext_getElem?
            intro z
            rw [List.getElem?_set]
            split
            · rename_i hz;subst hz;rw [hro1,if_pos (List.getElem?_eq_some_iff.1 hro1).1]
            · rfl
          have hse2:(A.map obE).set j [.ob tEn (enE e2)]=(A.set j e2).map obE:=by rw [List.map_set]
          have hlA:(A.map obE).length=6:=by rw [List.length_map];exact hAj.len
          have C1:=mconfig_ac y (by omega)
          have Sm:=csame_ac y.cfg y.cfg (by omega)
          rw [decide_eq_true rfl] at Sm
          repeat' (first|((first|((with_reducible apply AP.k_any);first|refine AP.ST ?_|(refine AP.Y ?_;dsimp only)|refine AP.G (fun hg=>?_) (fun hg=>?_)|(refine AP.V (fun c hnil=>?_);simp only [nz])|refine AP.PF ?_))<;>(try simp only [r1,r2,r3,hlo,nq,Nat.reduceBEq,Nat.reduceAdd,Nat.reduceSub]))|refine CP.TN ?_|((with_reducible apply CP.k_reg);refine cp_regG fun Q' hQ'=>?_)|((with_reducible apply CP.k_cond);refine cp_cond rfl (fun hc=>?_) (fun hc=>?_))|(simp only [List.append_eq,List.cons_append,List.nil_append]))
          refine CP.gh (gh_open (j:=5) (n:=m) rfl hro1 rfl rfl) ?_
          simp only [opnC,opnA,nx,Nat.reduceAdd,Nat.reduceSub,BEq.rfl]
          first|refine cp_drwX fun Q' hQ'=>?_|refine cp_drawX ?_
          repeat' (first|((first|((with_reducible apply AP.k_any);first|refine AP.ST ?_|(refine AP.Y ?_;dsimp only)|refine AP.G (fun hg=>?_) (fun hg=>?_)|(refine AP.V (fun c hnil=>?_);simp only [nz])|refine AP.PF ?_)|((with_reducible apply DW.k_any);first|refine DW.ST ?_|((fail_if_success refine DW.known rfl ?_);refine DW.G (fun hg=>?_) (fun hg=>?_))))<;>(try simp only [r2,r3,hlA,hlo,nq,Nat.reduceBEq,Nat.reduceAdd,Nat.reduceSub]))|refine CP.TN ?_|((with_reducible apply CP.k_reg);refine cp_regG fun Q' hQ'=>?_)|((with_reducible apply CP.k_cond);refine cp_cond rfl (fun hc=>?_) (fun hc=>?_))|(simp only [List.append_eq,List.cons_append,List.nil_append]))
          clear T1
          refine CP.gh (gh_shutC (j:=5) (by exact rfl) (by (repeat' (first|exact ClsC.nil|apply ClsC.leaf rfl|apply ClsC.hd rfl|apply ClsC.ob rfl|apply ClsC.mo rfl|apply ClsC.mp rfl|apply ClsC.hp rfl|apply ClsC.fn))) (by exact rfl)) ?_
          simp only [hse1,nx,Nat.reduceAdd,Nat.reduceSub,BEq.rfl]
          have T2:=told_ac e b hbl (by rw [k2];omega) o2
          rw [t2,g2] at T2
          dsimp only at T2
          refine CP.gh (gh_open (j:=5) (n:=j) rfl hro2 rfl rfl) ?_
          simp only [opnC,opnA,nx,Nat.reduceAdd,Nat.reduceSub,BEq.rfl]
          first|refine cp_drwX fun Q' hQ'=>?_|refine cp_drawX ?_
          repeat' (first|((first|((with_reducible apply AP.k_any);first|refine AP.ST ?_|(refine AP.Y ?_;dsimp only)|refine AP.G (fun hg=>?_) (fun hg=>?_)|(refine AP.V (fun c hnil=>?_);simp only [nz])|refine AP.PF ?_)|((with_reducible apply DW.k_any);first|refine DW.ST ?_|((fail_if_success refine DW.known rfl ?_);refine DW.G (fun hg=>?_) (fun hg=>?_))))<;>(try simp only [r2,r3,hlA,hlo,nq,Nat.reduceBEq,Nat.reduceAdd,Nat.reduceSub]))|refine CP.TN ?_|((with_reducible apply CP.k_reg);refine cp_regG fun Q' hQ'=>?_)|((with_reducible apply CP.k_cond);refine cp_cond rfl (fun hc=>?_) (fun hc=>?_))|(simp only [List.append_eq,List.cons_append,List.nil_append]))
          clear T2
          have T3:=told_ac e' b hbl (by rw [k3];omega) o3
          rw [t3,g3] at T3
          dsimp only at T3
          first|refine cp_drwX fun Q' hQ'=>?_|refine cp_drawX ?_
          repeat' (first|((first|((with_reducible apply AP.k_any);first|refine AP.ST ?_|(refine AP.Y ?_;dsimp only)|refine AP.G (fun hg=>?_) (fun hg=>?_)|(refine AP.V (fun c hnil=>?_);simp only [nz])|refine AP.PF ?_)|((with_reducible apply DW.k_any);first|refine DW.ST ?_|((fail_if_success refine DW.known rfl ?_);refine DW.G (fun hg=>?_) (fun hg=>?_))))<;>(try simp only [r2,r3,hlA,hlo,nq,Nat.reduceBEq,Nat.reduceAdd,Nat.reduceSub]))|refine CP.TN ?_|((with_reducible apply CP.k_reg);refine cp_regG fun Q' hQ'=>?_)|((with_reducible apply CP.k_cond);refine cp_cond rfl (fun hc=>?_) (fun hc=>?_))|(simp only [List.append_eq,List.cons_append,List.nil_append]))
          clear T3
          refine CP.gh (gh_shutC (j:=5) (by exact rfl) (by (repeat' (first|exact ClsC.nil|apply ClsC.leaf rfl|apply ClsC.hd rfl|apply ClsC.ob rfl|apply ClsC.mo rfl|apply ClsC.mp rfl|apply ClsC.hp rfl|apply ClsC.fn))) (by exact rfl)) ?_
          simp only [hse2,nx,Nat.reduceAdd,Nat.reduceSub,BEq.rfl]
          repeat' (first|((first|((with_reducible apply AP.k_any);first|refine AP.ST ?_|(refine AP.Y ?_;dsimp only)|refine AP.G (fun hg=>?_) (fun hg=>?_)|(refine AP.V (fun c hnil=>?_);simp only [nz])|refine AP.PF ?_)|((with_reducible apply DW.k_any);first|refine DW.ST ?_|((fail_if_success refine DW.known rfl ?_);refine DW.G (fun hg=>?_) (fun hg=>?_))))<;>(try simp only [r2,r3,hlA,hlo,nq,Nat.reduceBEq,Nat.reduceAdd,Nat.reduceSub]))|refine CP.TL ?_|((with_reducible apply CP.k_drw);refine cp_drwX fun Q' hQ'=>?_)|((with_reducible apply CP.k_reg);refine cp_regG fun Q' hQ'=>?_)|((with_reducible apply CP.k_cond);refine cp_cond rfl (fun hc=>?_) (fun hc=>?_))|(simp only [List.append_eq,List.cons_append,List.nil_append]))
          exact ⟨⟨j + 1,w + 1,va + 5,vb + 5,vc + 2,vd + 1,ve + 1,vf + 1,A.set j e2⟩,by (dsimp only;omega),⟨by (dsimp only;omega),hAi⟩,by exact Gh.W⟩
        · obtain rfl:j=6:=by omega
          have r1:decide (((6:Nat):Int) < ((6:Nat):Int))=false:=rfl
          have hA6:Ai root (fun _ s=>got s y.ends.sent 0) A:=⟨hAj.len,fun k e he=>by
            obtain ⟨c1,c2,c3,c4⟩:=hAj.at_ k e he
            have hk:k < 6:=by have:=(List.getElem?_eq_some_iff.1 he).1;rw [hAj.len] at this;exact this
            exact ⟨c1,c2,c3,fun ep=>by have:=c4 ep;rw [if_pos hk] at this;exact this⟩⟩
          repeat' (first|((first|((with_reducible apply AP.k_any);first|refine AP.ST ?_|(refine AP.Y ?_;dsimp only)|refine AP.G (fun hg=>?_) (fun hg=>?_)|(refine AP.V (fun c hnil=>?_);simp only [nz])|refine AP.PF ?_)|((with_reducible apply DW.k_any);first|refine DW.ST ?_|((fail_if_success refine DW.known rfl ?_);refine DW.G (fun hg=>?_) (fun hg=>?_))))<;>(try simp only [r1,p2,hlo,nq,Nat.reduceBEq,Nat.reduceAdd,Nat.reduceSub]))|refine CP.TL ?_|((with_reducible apply CP.k_drw);refine cp_drwX fun Q' hQ'=>?_)|((with_reducible apply CP.k_reg);refine cp_regG fun Q' hQ'=>?_)|((with_reducible apply CP.k_cond);refine cp_cond rfl (fun hc=>?_) (fun hc=>?_))|(simp only [List.append_eq,List.cons_append,List.nil_append]))
          exact ⟨⟨i + 1,w,va,vb,vc,vd,ve,vf,y,S',A⟩,by (dsimp only;omega),⟨by (dsimp only;omega),hJ,hS2,hw2,hb2,hA6⟩,by exact Gh.W⟩
    · obtain rfl:i=L.length:=by omega
      have p1:decide ((L.length:Int) < (L.length:Int))=false:=by simp
      have h6:=mastawake_ac
      repeat' (first|((first|((with_reducible apply AP.k_any);first|refine AP.ST ?_|(refine AP.Y ?_;dsimp only)|refine AP.G (fun hg=>?_) (fun hg=>?_)|(refine AP.V (fun c hnil=>?_);simp only [nz])|refine AP.PF ?_)|((with_reducible apply DW.k_any);first|refine DW.ST ?_|((fail_if_success refine DW.known rfl ?_);refine DW.G (fun hg=>?_) (fun hg=>?_))))<;>(try simp only [p1,nq,Nat.reduceBEq,Nat.reduceAdd,Nat.reduceSub]))|refine CP.TL ?_|((with_reducible apply CP.k_drw);refine cp_drwX fun Q' hQ'=>?_)|((with_reducible apply CP.k_reg);refine cp_regG fun Q' hQ'=>?_)|((with_reducible apply CP.k_cond);refine cp_cond rfl (fun hc=>?_) (fun hc=>?_))|(simp only [List.append_eq,List.cons_append,List.nil_append]))
      (exact RetQ.A [] (by exact ⟨rfl,rfl⟩))
theorem tells_ac (root:List UInt8) (nodes:Int) (L:List Aa) (hl:L.length≤100000000):AC Tryz.prog 5 [bs none root,I nodes,asA L] [] (fun v bs'=>v=B true∧bs'=[]):=by
  by_cases h:greatA root L=true∨40 < L.length
  · exact tells_big root nodes L hl h
  · exact tells_go root nodes L (by omega) (by simpa using fun h1=>h (.inl h1))
end Go.Proofs.YtmgneincjfhaoaaGreat

namespace Go.Proofs.YtmgneincjfhaoaaGreat
set_option linter.unusedVariables false
set_option linter.unusedSimpArgs false
open Go.RowKit Go.ChangeShapes Go.WideShapes Go.ChangeAt Go.Deep
set_option maxRecDepth 100000
theorem oaa:OA Tryz.prog 36 5 (fun N (a:Aa)=>a.bytes.length < N) eAa:=
  (oa_struct Tryz.underlying36 (by kernel_rfl) (of_cons rfl ou (of_cons rfl oi (of_cons rfl oi (of_cons rfl oi (of_cons rfl obs of_nil)))))).map (fun d=>(⟨d.1,d.2.1,d.2.2.1,d.2.2.2.1,d.2.2.2.2.1⟩:Aa)) (fun _ _ _ hmn h=>by omega) (fun _ _ h=>h.2.2.2.2.1.2) fun _=>rfl
theorem oaas:OA Tryz.prog 23 1 (fun N (l:List Aa)=>(∀ a∈l,a.bytes.length < N)∧l.length < N) (fun l=>[.sl none 5 (l.map eAa)]):=oa_slice (by decide) Tryz.underlying23 (by kernel_rfl) oaa
end Go.Proofs.YtmgneincjfhaoaaGreat
