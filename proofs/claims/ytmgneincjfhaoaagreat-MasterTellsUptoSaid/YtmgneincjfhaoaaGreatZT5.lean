/-
  Texts joined: Q6, W12, W13, V7, V8, Lk2, Lk3, Lk4, Q7, Q8, Q9, Le1, W6, W7, M1, W8, M2, M3, M4, V3, Va, M5, Ms1, Ms2, Ms3, W14, M6.
-/
import Derived.Test.YtmgneincjfhaoaaGreatZT1
import Derived.Test.YtmgneincjfhaoaaGreatZT2
import Derived.Test.YtmgneincjfhaoaaGreatZT3
import Derived.Test.YtmgneincjfhaoaaGreatZT4
namespace Go.Proofs.YtmgneincjfhaoaaGreat
set_option linter.unusedVariables false
set_option linter.unusedSimpArgs false
set_option maxHeartbeats 8000000
open Go.RowKit
set_option maxRecDepth 100000
theorem send_no (x:Ends) (to epoch:Int) (body:List UInt8) (hr:x.root.length≤10000) (hb:body.length≤60000) (hn:0≤got (to,epoch) x.sent 0∧got (to,epoch) x.sent 0≤1000000000) (hm:mayP (x.pkt to epoch body)=false) :
    AC Tryz.prog 58 [.bp 0 0 0,I to,I epoch,bs none body] [xE x] (fun v bs'=>v=.tu [bs none [],I 2]∧bs'=[xE x]):=by
  have hm':mayP (x.sealed to epoch body)=false:=(mayP_tag _ _).trans hm
  have h1:=lnone_ac x
  have h2:=seal_ac x.root (x.pkt to epoch body) hr hb
  have h3:=print_acO (x.sealed to epoch body) hb (tagS_len _ _)
  have hk:=kinS x.sent
  have hf:=fnd_at_ (to,epoch) x.sent
  rw [hm'] at h3
  simp only [Bool.false_eq_true,if_false] at h3
  have hw:IntKind.i64.wrap (got (to,epoch) x.sent 0 + 1)=got (to,epoch) x.sent 0 + 1:=wrap_i64 (by omega) (by omega)
  unfold Ends.sealed at *
  generalize tagS x.root (x.pkt to epoch body)=T at *
  unfold Ends.pkt at *
  rw [eP_z] at h2
  cases ha:at_ (to,epoch) x.sent with
  | none=>
    have hg:got (to,epoch) x.sent 0=0:=by unfold got;rw [ha]
    rw [ha] at hf
    rw [hg] at hw h2 h3
    refine AC.N Tryz.func58 Tryz.ntmps58 ?_
    intro X hρ hmks
    refine NX ?_
    refine CP.gh gh_slot ?_;refine NX ?_
    refine CP.gh gh_slot ?_;refine NX ?_
    refine CP.gh gh_slot ?_;refine NX ?_
    repeat' (first|((first|((with_reducible apply AP.k_any);first|refine AP.ST ?_|(refine AP.Y ?_;dsimp only)|refine AP.G (fun hg=>?_) (fun hg=>?_)|(refine AP.V (fun c hnil=>?_);simp only [nz])|refine AP.PF ?_)|((with_reducible apply DW.k_any);first|refine DW.ST ?_|((fail_if_success refine DW.known rfl ?_);refine DW.G (fun hg=>?_) (fun hg=>?_))))<;>(try simp only [hw,nq,Nat.reduceBEq,Nat.reduceAdd,Nat.reduceSub]))|refine CP.TL ?_|((with_reducible apply CP.k_drw);refine cp_drwX fun Q' hQ'=>?_)|((with_reducible apply CP.k_reg);refine cp_regG fun Q' hQ'=>?_)|((with_reducible apply CP.k_cond);refine cp_cond rfl (fun hc=>?_) (fun hc=>?_))|(simp only [List.append_eq,List.cons_append,List.nil_append]))
    (exact RetQ.A [(0,0)] (by exact ⟨rfl,rfl⟩))
  | some n=>
    obtain ⟨v,hv⟩:=at_some ha
    have hg:got (to,epoch) x.sent 0=v:=by unfold got;rw [ha];dsimp only;rw [hv]
    have hro:=rowAt_map (e:=fun p:Sd×Int=>[I p.2]) hv rfl
    rw [ha] at hf
    rw [hg] at hw h2 h3
    refine AC.N Tryz.func58 Tryz.ntmps58 ?_
    intro X hρ hmks
    refine NX ?_
    refine CP.gh gh_slot ?_;refine NX ?_
    refine CP.gh gh_slot ?_;refine NX ?_
    refine CP.gh gh_slot ?_;refine NX ?_
    repeat' (first|((first|((with_reducible apply AP.k_any);first|refine AP.ST ?_|(refine AP.Y ?_;dsimp only)|refine AP.G (fun hg=>?_) (fun hg=>?_)|(refine AP.V (fun c hnil=>?_);simp only [nz])|refine AP.PF ?_)|((with_reducible apply DW.k_any);first|refine DW.ST ?_|((fail_if_success refine DW.known rfl ?_);refine DW.G (fun hg=>?_) (fun hg=>?_))))<;>(try simp only [hw,nq,Nat.reduceBEq,Nat.reduceAdd,Nat.reduceSub]))|refine CP.TL ?_|((with_reducible apply CP.k_drw);refine cp_drwX fun Q' hQ'=>?_)|((with_reducible apply CP.k_reg);refine cp_regG fun Q' hQ'=>?_)|((with_reducible apply CP.k_cond);refine cp_cond rfl (fun hc=>?_) (fun hc=>?_))|(simp only [List.append_eq,List.cons_append,List.nil_append]))
    (exact RetQ.A [(0,0)] (by exact ⟨rfl,rfl⟩))
theorem send_ok (x:Ends) (to epoch:Int) (body:List UInt8) (hr:x.root.length≤10000) (hb:body.length≤60000) (hn:0≤got (to,epoch) x.sent 0∧got (to,epoch) x.sent 0≤1000000000) (hm:mayP (x.pkt to epoch body)=true) :
    AC Tryz.prog 58 [.bp 0 0 0,I to,I epoch,bs none body] [xE x] (fun v bs'=>v=.tu [bs none (headS (x.pkt to epoch body) ++ tagS x.root (x.pkt to epoch body)),I 0]∧bs'=[xE (x.bump to epoch)]):=by
  have hm':mayP (x.sealed to epoch body)=true:=(mayP_tag _ _).trans hm
  have h1:=lnone_ac x
  have h2:=seal_ac x.root (x.pkt to epoch body) hr hb
  have h3:=print_acO (x.sealed to epoch body) hb (tagS_len _ _)
  have hk:=kinS x.sent
  have hf:=fnd_at_ (to,epoch) x.sent
  rw [hm'] at h3
  simp only [if_true] at h3
  have hw:IntKind.i64.wrap (got (to,epoch) x.sent 0 + 1)=got (to,epoch) x.sent 0 + 1:=wrap_i64 (by omega) (by omega)
  rw [show headS (x.sealed to epoch body)=headS (x.pkt to epoch body) from headS_tag _ _] at h3
  unfold Ends.sealed at *
  generalize headS (x.pkt to epoch body)=hd at *
  generalize tagS x.root (x.pkt to epoch body)=T at *
  unfold Ends.pkt at *
  rw [eP_z] at h2
  dsimp only at h3
  generalize hd ++ T=y at *
  cases ha:at_ (to,epoch) x.sent with
  | none=>
    have hg:got (to,epoch) x.sent 0=0:=by unfold got;rw [ha]
    have e1:xE (x.bump to epoch)=.c tEn [B true,bs none x.root,I x.who,I x.boot,.mo (keyN x.sent ++ [kS (to,epoch)]) ((rowN x.sent ++ [[I 0]]).set x.sent.length [I 1]),.mo (keyW x.wins) (rowW x.wins)]:=by
      have e2:(rowN x.sent ++ [[I 0]]).set x.sent.length [I 1]=rowN x.sent ++ [[I 1]]:=by
        rw [List.set_append_right _ _ (by simp)];simp
      rw [e2]
      unfold Ends.bump puts
      rw [hg,ha]
      simp only [xE,enE,keyN,rowN,List.map_append,List.map_cons,List.map_nil]
      rfl
    rw [e1]
    have hk1:∀ k∈keyN x.sent ++ [kS (to,epoch)],isKey Tryz.prog tSd [.i .i64,.i .i64] k=true:=kin _ fun k hk=>by
      rcases List.mem_append.1 hk with hk|hk
      · obtain ⟨p,_,rfl⟩:=List.mem_map.1 hk;exact ⟨_,rfl⟩
      · simp at hk;exact ⟨_,hk⟩
    have hf1:fnd (kS (to,epoch)) (keyN x.sent ++ [kS (to,epoch)])=some x.sent.length:=by
      rw [fnd_app (by rw [hf,ha])]
      simp [fnd,kEq_kS]
    have hro1:rowAt (rowN x.sent ++ [[I 0]]) none x.sent.length=some (I 0):=by
      simp [rowAt,AV.cp]
    rw [ha] at hf
    rw [hg] at hw h2 h3
    have hw0:IntKind.i64.wrap (0 + 1)=1:=rfl
    refine AC.N Tryz.func58 Tryz.ntmps58 ?_
    intro X hρ hmks
    refine NX ?_
    refine CP.gh gh_slot ?_;refine NX ?_
    refine CP.gh gh_slot ?_;refine NX ?_
    refine CP.gh gh_slot ?_;refine NX ?_
    repeat' (first|((first|((with_reducible apply AP.k_any);first|refine AP.ST ?_|(refine AP.Y ?_;dsimp only)|refine AP.G (fun hg=>?_) (fun hg=>?_)|(refine AP.V (fun c hnil=>?_);simp only [nz])|refine AP.PF ?_))<;>(try simp only [hw,nq,Nat.reduceBEq,Nat.reduceAdd,Nat.reduceSub]))|refine CP.TN ?_|((with_reducible apply CP.k_reg);refine cp_regG fun Q' hQ'=>?_)|((with_reducible apply CP.k_cond);refine cp_cond rfl (fun hc=>?_) (fun hc=>?_))|(simp only [List.append_eq,List.cons_append,List.nil_append]))
    first|refine cp_drwX fun Q' hQ'=>?_|refine cp_drawX ?_
    repeat' (first|((first|((with_reducible apply AP.k_any);first|refine AP.ST ?_|(refine AP.Y ?_;dsimp only)|refine AP.G (fun hg=>?_) (fun hg=>?_)|(refine AP.V (fun c hnil=>?_);simp only [nz])|refine AP.PF ?_)|((with_reducible apply DW.k_any);first|refine DW.ST ?_|((fail_if_success refine DW.known rfl ?_);refine DW.G (fun hg=>?_) (fun hg=>?_))))<;>(try simp only [hw,nq,Nat.reduceBEq,Nat.reduceAdd,Nat.reduceSub]))|refine CP.TN ?_|((with_reducible apply CP.k_reg);refine cp_regG fun Q' hQ'=>?_)|((with_reducible apply CP.k_cond);refine cp_cond rfl (fun hc=>?_) (fun hc=>?_))|(simp only [List.append_eq,List.cons_append,List.nil_append]))
    first|refine cp_drwX fun Q' hQ'=>?_|refine cp_drawX ?_
    repeat' (first|((first|((with_reducible apply AP.k_any);first|refine AP.ST ?_|(refine AP.Y ?_;dsimp only)|refine AP.G (fun hg=>?_) (fun hg=>?_)|(refine AP.V (fun c hnil=>?_);simp only [nz])|refine AP.PF ?_)|((with_reducible apply DW.k_any);first|refine DW.ST ?_|((fail_if_success refine DW.known rfl ?_);refine DW.G (fun hg=>?_) (fun hg=>?_))))<;>(try simp only [hw,nq,Nat.reduceBEq,Nat.reduceAdd,Nat.reduceSub]))|refine CP.TN ?_|((with_reducible apply CP.k_reg);refine cp_regG fun Q' hQ'=>?_)|((with_reducible apply CP.k_cond);refine cp_cond rfl (fun hc=>?_) (fun hc=>?_))|(simp only [List.append_eq,List.cons_append,List.nil_append]))
    refine cp_drawI (fun zs zb=>⟨setT zs.t [(50,cond (zb.getD 0 false) (.bp 0 0 0) (.tu [])),(51,cond (zb.getD 1 false) (.bp 0 0 0) (.tu [])),(52,cond (zb.getD 2 false) (.bp 0 0 4) (.tu [])),(53,cond (zb.getD 3 false) (.hd 1 2) (.tu [])),(54,cond (zb.getD 4 false) (.ag [I to,I epoch]) (.tu [])),(55,cond (zb.getD 5 false) (I 0) (.tu [])),(56,cond (zb.getD 6 false) (I (IntKind.i64.wrap (0 + 1))) (.tu [])),(57,cond (zb.getD 7 false) (.tu [I 0,.hd 5 2]) (.tu [])),(58,cond (zb.getD 8 false) (.hd 5 2) (.tu []))],((zs.b.set 1 (cond (zb.getD 9 false) (⟨2,.m (keyN x.sent ++ [kS (to,epoch)]) ((rowN x.sent ++ [[I 0]]).set x.sent.length [I (IntKind.i64.wrap (0 + 1))]) none none⟩) (cond (zb.getD 7 false) (⟨2,.m (keyN x.sent ++ [kS (to,epoch)]) (rowN x.sent ++ [[I 0]]) none (some (x.sent.length,5,2))⟩) (zs.b.getD 1 ⟨0,.x⟩)))).set 5 (cond (zb.getD 7 false) (⟨2,.x⟩) (zs.b.getD 5 ⟨0,.x⟩)))⟩) (by kernel_rfl) (by kernel_rfl) (by kernel_rfl) ?_ ?_
    rotate_left
    simp only [cond_true,cond_false,setT,List.set_cons_succ,List.set_cons_zero,List.getD_cons_succ,List.getD_cons_zero,List.set_cons_succ,List.length_cons,List.length_nil,List.replicate_succ,List.replicate_zero,Nat.reduceAdd]
    rotate_left
    · intro b hb' hcl
      obtain ⟨l0,b0,rfl,hb0⟩:=len_cons hb'
      obtain ⟨l1,b1,rfl,hb1⟩:=len_cons hb0
      obtain ⟨l2,b2,rfl,hb2⟩:=len_cons hb1
      obtain ⟨l3,b3,rfl,hb3⟩:=len_cons hb2
      obtain ⟨l4,b4,rfl,hb4⟩:=len_cons hb3
      obtain ⟨l5,b5,rfl,hb5⟩:=len_cons hb4
      obtain ⟨l6,b6,rfl,hb6⟩:=len_cons hb5
      obtain ⟨l7,b7,rfl,hb7⟩:=len_cons hb6
      obtain ⟨l8,b8,rfl,hb8⟩:=len_cons hb7
      obtain ⟨l9,b9,rfl,hb9⟩:=len_cons hb8
      obtain rfl:=List.length_eq_zero_iff.1 hb9
      clear hb' hb0 hb1 hb2 hb3 hb4 hb5 hb6 hb7 hb8 hb9
      · simp only [closedB,depsOk,Region.binds,List.toList_toArray,List.all_cons,List.all_nil,List.getD_cons_succ,List.getD_cons_zero,Bool.not_true,Bool.not_false,Bool.true_or,Bool.false_or,Bool.and_true,Bool.true_and,Bool.or_true,Bool.and_false,Bool.or_false,Bool.false_and,Bool.and_eq_true,Bool.or_eq_true,Bool.not_eq_true'] at hcl
        simp only [StepsP]
        refine ⟨?_,?_,?_,?_,?_,?_,?_,?_,?_,?_,trivial⟩
        · intro h1 h2
          simp [depsOk,Region.binds] at h1 h2
          subst h1
          (repeat (obtain ⟨rfl,h2⟩:=h2))
          (try subst h2)
          clear hcl
          all_goals refine CD ?_
          all_goals ((with_reducible apply AP.k_any);first|(refine AP.sm false rfl ?_ ?_;focus (exact PF0))|fail "no step")
          all_goals (try refine NX ?_)
          all_goals refine AP.nil ?_
          all_goals exact ⟨rfl,rfl⟩
        · intro h1 h2
          simp [depsOk,Region.binds] at h1 h2
          subst h1
          (repeat (obtain ⟨rfl,h2⟩:=h2))
          (try subst h2)
          clear hcl
          all_goals refine CD ?_
          all_goals ((with_reducible apply AP.k_any);first|(refine AP.sm false rfl ?_ ?_;focus (exact PF0))|fail "no step")
          all_goals (try refine NX ?_)
          all_goals refine AP.nil ?_
          all_goals exact ⟨rfl,rfl⟩
        · intro h1 h2
          simp [depsOk,Region.binds] at h1 h2
          subst h1
          (repeat (obtain ⟨rfl,h2⟩:=h2))
          (try subst h2)
          clear hcl
          all_goals refine CD ?_
          all_goals ((with_reducible apply AP.k_any);first|(refine AP.sm false rfl ?_ ?_;focus (exact PF0))|fail "no step")
          all_goals (try refine NX ?_)
          all_goals refine AP.nil ?_
          all_goals exact ⟨rfl,rfl⟩
        · intro h1 h2
          simp [depsOk,Region.binds] at h1 h2
          subst h1
          (repeat (obtain ⟨rfl,h2⟩:=h2))
          (try subst h2)
          (first|(obtain rfl:l7=false:=by grind only)|skip)
          (first|(obtain rfl:l9=false:=by grind only)|skip)
          clear hcl
          all_goals refine CD ?_
          all_goals ((with_reducible apply AP.k_any);first|(refine AP.sm false rfl ?_ ?_;focus (exact PF0))|(refine AP.el rfl ?_ (by (first|(refine ⟨?_,?_⟩;assumption;rfl)|exact ⟨mapAt (by (first|omega|(simp;omega)|(simp;done)|assumption)),rfl⟩|exact ⟨rfl,rfl⟩)) ?_;focus (exact PF0))|fail "no step")
          all_goals (try refine NX ?_)
          all_goals refine AP.nil ?_
          all_goals exact ⟨rfl,rfl⟩
        · intro h1 h2
          simp [depsOk,Region.binds] at h1 h2
          subst h1
          (repeat (obtain ⟨rfl,h2⟩:=h2))
          (try subst h2)
          (first|(obtain rfl:l7=false:=by grind only)|skip)
          (first|(obtain rfl:l9=false:=by grind only)|skip)
          clear hcl
          all_goals refine CD ?_
          all_goals ((with_reducible apply AP.k_any);first|(refine AP.sm false rfl ?_ ?_;focus (exact PF0))|(refine AP.el rfl ?_ (by (first|(refine ⟨?_,?_⟩;assumption;rfl)|exact ⟨mapAt (by (first|omega|(simp;omega)|(simp;done)|assumption)),rfl⟩|exact ⟨rfl,rfl⟩)) ?_;focus (exact PF0))|fail "no step")
          all_goals (try refine NX ?_)
          all_goals refine AP.nil ?_
          all_goals exact ⟨rfl,rfl⟩
        · intro h1 h2
          simp [depsOk,Region.binds] at h1 h2
          subst h1
          (repeat (obtain ⟨rfl,h2⟩:=h2))
          (try subst h2)
          (first|(obtain rfl:l9=false:=by grind only)|skip)
          clear hcl
          (first|cases l7|skip)
          all_goals refine CD ?_
          all_goals ((with_reducible apply AP.k_any);first|refine AP.LK ?_|refine AP.LN ?_|fail "no step")
          all_goals (try refine NX ?_)
          all_goals refine AP.nil ?_
          all_goals exact ⟨rfl,rfl⟩
        · intro h1 h2
          simp [depsOk,Region.binds] at h1 h2
          subst h1
          (repeat (obtain ⟨rfl,h2⟩:=h2))
          (try subst h2)
          clear hcl
          all_goals refine CD ?_
          all_goals ((with_reducible apply AP.k_any);first|(refine AP.sm false rfl ?_ ?_;focus (exact PF0))|fail "no step")
          all_goals (try refine NX ?_)
          all_goals refine AP.nil ?_
          all_goals exact ⟨rfl,rfl⟩
        · intro h1 h2
          simp [depsOk,Region.binds] at h1 h2
          subst h1
          (repeat (obtain ⟨rfl,h2⟩:=h2))
          (try subst h2)
          (first|(obtain rfl:l9=false:=by grind only)|skip)
          clear hcl
          all_goals refine CD ?_
          all_goals ((with_reducible apply AP.k_any);first|refine AP.ME ?_|refine AP.MF ?_|fail "no step")
          all_goals (try refine NX ?_)
          all_goals refine AP.nil ?_
          all_goals exact ⟨rfl,rfl⟩
        · intro h1 h2
          simp [depsOk,Region.binds] at h1 h2
          subst h1
          (repeat (obtain ⟨rfl,h2⟩:=h2))
          (try subst h2)
          clear hcl
          all_goals refine CD ?_
          all_goals ((with_reducible apply AP.k_any);first|(refine AP.sm false rfl ?_ ?_;focus (exact PF0))|fail "no step")
          all_goals (try refine NX ?_)
          all_goals refine AP.nil ?_
          all_goals exact ⟨rfl,rfl⟩
        · intro h1 h2
          simp [depsOk,Region.binds] at h1 h2
          subst h1
          (repeat (obtain ⟨rfl,h2⟩:=h2))
          (try subst h2)
          (first|(obtain rfl:l7=true:=by grind only)|skip)
          clear hcl
          all_goals refine CD ?_
          all_goals ((with_reducible apply AP.k_any);first|refine AP.MS ?_|fail "no step")
          all_goals (try refine NX ?_)
          all_goals refine AP.nil ?_
          all_goals exact ⟨rfl,rfl⟩
    simp only [hw0]
    repeat' (first|((first|((with_reducible apply AP.k_any);first|refine AP.ST ?_|(refine AP.Y ?_;dsimp only)|refine AP.G (fun hg=>?_) (fun hg=>?_)|(refine AP.V (fun c hnil=>?_);simp only [nz])|refine AP.PF ?_))<;>(try simp only [hw,nq,Nat.reduceBEq,Nat.reduceAdd,Nat.reduceSub]))|refine CP.TN ?_|((with_reducible apply CP.k_reg);refine cp_regG fun Q' hQ'=>?_)|((with_reducible apply CP.k_cond);refine cp_cond rfl (fun hc=>?_) (fun hc=>?_))|(simp only [List.append_eq,List.cons_append,List.nil_append]))
    (exact RetQ.A [(0,0)] (by exact ⟨rfl,rfl⟩))
  | some n=>
    obtain ⟨v,hv⟩:=at_some ha
    have hg:got (to,epoch) x.sent 0=v:=by unfold got;rw [ha];dsimp only;rw [hv]
    have e1:xE (x.bump to epoch)=.c tEn [B true,bs none x.root,I x.who,I x.boot,.mo (keyN x.sent) ((rowN x.sent).set n [I (v + 1)]),.mo (keyW x.wins) (rowW x.wins)]:=by
      have e2:=puts_keys ha (v + 1)
      have e3:(x.sent.set n ((to,epoch),v + 1)).map (fun p:Sd×Int=>[I p.2])=(rowN x.sent).set n [I (v + 1)]:=by rw [List.map_set]
      unfold Ends.bump puts
      rw [hg,ha]
      dsimp only [xE,enE,keyN,rowN]
      rw [e2,e3]
    rw [e1]
    have hro:=rowAt_map (e:=fun p:Sd×Int=>[I p.2]) hv rfl
    rw [ha] at hf
    rw [hg] at hw h2 h3
    refine AC.N Tryz.func58 Tryz.ntmps58 ?_
    intro X hρ hmks
    refine NX ?_
    refine CP.gh gh_slot ?_;refine NX ?_
    refine CP.gh gh_slot ?_;refine NX ?_
    refine CP.gh gh_slot ?_;refine NX ?_
    repeat' (first|((first|((with_reducible apply AP.k_any);first|refine AP.ST ?_|(refine AP.Y ?_;dsimp only)|refine AP.G (fun hg=>?_) (fun hg=>?_)|(refine AP.V (fun c hnil=>?_);simp only [nz])|refine AP.PF ?_))<;>(try simp only [hw,nq,Nat.reduceBEq,Nat.reduceAdd,Nat.reduceSub]))|refine CP.TN ?_|((with_reducible apply CP.k_reg);refine cp_regG fun Q' hQ'=>?_)|((with_reducible apply CP.k_cond);refine cp_cond rfl (fun hc=>?_) (fun hc=>?_))|(simp only [List.append_eq,List.cons_append,List.nil_append]))
    first|refine cp_drwX fun Q' hQ'=>?_|refine cp_drawX ?_
    repeat' (first|((first|((with_reducible apply AP.k_any);first|refine AP.ST ?_|(refine AP.Y ?_;dsimp only)|refine AP.G (fun hg=>?_) (fun hg=>?_)|(refine AP.V (fun c hnil=>?_);simp only [nz])|refine AP.PF ?_)|((with_reducible apply DW.k_any);first|refine DW.ST ?_|((fail_if_success refine DW.known rfl ?_);refine DW.G (fun hg=>?_) (fun hg=>?_))))<;>(try simp only [hw,nq,Nat.reduceBEq,Nat.reduceAdd,Nat.reduceSub]))|refine CP.TN ?_|((with_reducible apply CP.k_reg);refine cp_regG fun Q' hQ'=>?_)|((with_reducible apply CP.k_cond);refine cp_cond rfl (fun hc=>?_) (fun hc=>?_))|(simp only [List.append_eq,List.cons_append,List.nil_append]))
    first|refine cp_drwX fun Q' hQ'=>?_|refine cp_drawX ?_
    repeat' (first|((first|((with_reducible apply AP.k_any);first|refine AP.ST ?_|(refine AP.Y ?_;dsimp only)|refine AP.G (fun hg=>?_) (fun hg=>?_)|(refine AP.V (fun c hnil=>?_);simp only [nz])|refine AP.PF ?_)|((with_reducible apply DW.k_any);first|refine DW.ST ?_|((fail_if_success refine DW.known rfl ?_);refine DW.G (fun hg=>?_) (fun hg=>?_))))<;>(try simp only [hw,nq,Nat.reduceBEq,Nat.reduceAdd,Nat.reduceSub]))|refine CP.TN ?_|((with_reducible apply CP.k_reg);refine cp_regG fun Q' hQ'=>?_)|((with_reducible apply CP.k_cond);refine cp_cond rfl (fun hc=>?_) (fun hc=>?_))|(simp only [List.append_eq,List.cons_append,List.nil_append]))
    refine cp_drawI (fun zs zb=>⟨setT zs.t [(50,cond (zb.getD 0 false) (.bp 0 0 0) (.tu [])),(51,cond (zb.getD 1 false) (.bp 0 0 0) (.tu [])),(52,cond (zb.getD 2 false) (.bp 0 0 4) (.tu [])),(53,cond (zb.getD 3 false) (.hd 1 2) (.tu [])),(54,cond (zb.getD 4 false) (.ag [I to,I epoch]) (.tu [])),(55,cond (zb.getD 5 false) (I v) (.tu [])),(56,cond (zb.getD 6 false) (I (IntKind.i64.wrap (v + 1))) (.tu [])),(57,cond (zb.getD 7 false) (.tu [I v,.hd 5 2]) (.tu [])),(58,cond (zb.getD 8 false) (.hd 5 2) (.tu []))],((zs.b.set 1 (cond (zb.getD 9 false) (⟨2,.m (keyN x.sent) ((rowN x.sent).set n [I (IntKind.i64.wrap (v + 1))]) none none⟩) (cond (zb.getD 7 false) (⟨2,.m (keyN x.sent) (rowN x.sent) none (some (n,5,2))⟩) (zs.b.getD 1 ⟨0,.x⟩)))).set 5 (cond (zb.getD 7 false) (⟨2,.x⟩) (zs.b.getD 5 ⟨0,.x⟩)))⟩) (by kernel_rfl) (by kernel_rfl) (by kernel_rfl) ?_ ?_
    rotate_left
    simp only [cond_true,cond_false,setT,List.set_cons_succ,List.set_cons_zero,List.getD_cons_succ,List.getD_cons_zero,List.set_cons_succ,List.length_cons,List.length_nil,List.replicate_succ,List.replicate_zero,Nat.reduceAdd]
    rotate_left
    · intro b hb' hcl
      obtain ⟨l0,b0,rfl,hb0⟩:=len_cons hb'
      obtain ⟨l1,b1,rfl,hb1⟩:=len_cons hb0
      obtain ⟨l2,b2,rfl,hb2⟩:=len_cons hb1
      obtain ⟨l3,b3,rfl,hb3⟩:=len_cons hb2
      obtain ⟨l4,b4,rfl,hb4⟩:=len_cons hb3
      obtain ⟨l5,b5,rfl,hb5⟩:=len_cons hb4
      obtain ⟨l6,b6,rfl,hb6⟩:=len_cons hb5
      obtain ⟨l7,b7,rfl,hb7⟩:=len_cons hb6
      obtain ⟨l8,b8,rfl,hb8⟩:=len_cons hb7
      obtain ⟨l9,b9,rfl,hb9⟩:=len_cons hb8
      obtain rfl:=List.length_eq_zero_iff.1 hb9
      clear hb' hb0 hb1 hb2 hb3 hb4 hb5 hb6 hb7 hb8 hb9
      · simp only [closedB,depsOk,Region.binds,List.toList_toArray,List.all_cons,List.all_nil,List.getD_cons_succ,List.getD_cons_zero,Bool.not_true,Bool.not_false,Bool.true_or,Bool.false_or,Bool.and_true,Bool.true_and,Bool.or_true,Bool.and_false,Bool.or_false,Bool.false_and,Bool.and_eq_true,Bool.or_eq_true,Bool.not_eq_true'] at hcl
        simp only [StepsP]
        refine ⟨?_,?_,?_,?_,?_,?_,?_,?_,?_,?_,trivial⟩
        · intro h1 h2
          simp [depsOk,Region.binds] at h1 h2
          subst h1
          (repeat (obtain ⟨rfl,h2⟩:=h2))
          (try subst h2)
          clear hcl
          all_goals refine CD ?_
          all_goals ((with_reducible apply AP.k_any);first|(refine AP.sm false rfl ?_ ?_;focus (exact PF0))|fail "no step")
          all_goals (try refine NX ?_)
          all_goals refine AP.nil ?_
          all_goals exact ⟨rfl,rfl⟩
        · intro h1 h2
          simp [depsOk,Region.binds] at h1 h2
          subst h1
          (repeat (obtain ⟨rfl,h2⟩:=h2))
          (try subst h2)
          clear hcl
          all_goals refine CD ?_
          all_goals ((with_reducible apply AP.k_any);first|(refine AP.sm false rfl ?_ ?_;focus (exact PF0))|fail "no step")
          all_goals (try refine NX ?_)
          all_goals refine AP.nil ?_
          all_goals exact ⟨rfl,rfl⟩
        · intro h1 h2
          simp [depsOk,Region.binds] at h1 h2
          subst h1
          (repeat (obtain ⟨rfl,h2⟩:=h2))
          (try subst h2)
          clear hcl
          all_goals refine CD ?_
          all_goals ((with_reducible apply AP.k_any);first|(refine AP.sm false rfl ?_ ?_;focus (exact PF0))|fail "no step")
          all_goals (try refine NX ?_)
          all_goals refine AP.nil ?_
          all_goals exact ⟨rfl,rfl⟩
        · intro h1 h2
          simp [depsOk,Region.binds] at h1 h2
          subst h1
          (repeat (obtain ⟨rfl,h2⟩:=h2))
          (try subst h2)
          (first|(obtain rfl:l7=false:=by grind only)|skip)
          (first|(obtain rfl:l9=false:=by grind only)|skip)
          clear hcl
          all_goals refine CD ?_
          all_goals ((with_reducible apply AP.k_any);first|(refine AP.sm false rfl ?_ ?_;focus (exact PF0))|(refine AP.el rfl ?_ (by (first|(refine ⟨?_,?_⟩;assumption;rfl)|exact ⟨mapAt (by (first|omega|(simp;omega)|(simp;done)|assumption)),rfl⟩|exact ⟨rfl,rfl⟩)) ?_;focus (exact PF0))|fail "no step")
          all_goals (try refine NX ?_)
          all_goals refine AP.nil ?_
          all_goals exact ⟨rfl,rfl⟩
        · intro h1 h2
          simp [depsOk,Region.binds] at h1 h2
          subst h1
          (repeat (obtain ⟨rfl,h2⟩:=h2))
          (try subst h2)
          (first|(obtain rfl:l7=false:=by grind only)|skip)
          (first|(obtain rfl:l9=false:=by grind only)|skip)
          clear hcl
          all_goals refine CD ?_
          all_goals ((with_reducible apply AP.k_any);first|(refine AP.sm false rfl ?_ ?_;focus (exact PF0))|(refine AP.el rfl ?_ (by (first|(refine ⟨?_,?_⟩;assumption;rfl)|exact ⟨mapAt (by (first|omega|(simp;omega)|(simp;done)|assumption)),rfl⟩|exact ⟨rfl,rfl⟩)) ?_;focus (exact PF0))|fail "no step")
          all_goals (try refine NX ?_)
          all_goals refine AP.nil ?_
          all_goals exact ⟨rfl,rfl⟩
        · intro h1 h2
          simp [depsOk,Region.binds] at h1 h2
          subst h1
          (repeat (obtain ⟨rfl,h2⟩:=h2))
          (try subst h2)
          (first|(obtain rfl:l9=false:=by grind only)|skip)
          clear hcl
          (first|cases l7|skip)
          all_goals refine CD ?_
          all_goals ((with_reducible apply AP.k_any);first|refine AP.LK ?_|refine AP.LN ?_|fail "no step")
          all_goals (try refine NX ?_)
          all_goals refine AP.nil ?_
          all_goals exact ⟨rfl,rfl⟩
        · intro h1 h2
          simp [depsOk,Region.binds] at h1 h2
          subst h1
          (repeat (obtain ⟨rfl,h2⟩:=h2))
          (try subst h2)
          clear hcl
          all_goals refine CD ?_
          all_goals ((with_reducible apply AP.k_any);first|(refine AP.sm false rfl ?_ ?_;focus (exact PF0))|fail "no step")
          all_goals (try refine NX ?_)
          all_goals refine AP.nil ?_
          all_goals exact ⟨rfl,rfl⟩
        · intro h1 h2
          simp [depsOk,Region.binds] at h1 h2
          subst h1
          (repeat (obtain ⟨rfl,h2⟩:=h2))
          (try subst h2)
          (first|(obtain rfl:l9=false:=by grind only)|skip)
          clear hcl
          all_goals refine CD ?_
          all_goals ((with_reducible apply AP.k_any);first|refine AP.ME ?_|refine AP.MF ?_|fail "no step")
          all_goals (try refine NX ?_)
          all_goals refine AP.nil ?_
          all_goals exact ⟨rfl,rfl⟩
        · intro h1 h2
          simp [depsOk,Region.binds] at h1 h2
          subst h1
          (repeat (obtain ⟨rfl,h2⟩:=h2))
          (try subst h2)
          clear hcl
          all_goals refine CD ?_
          all_goals ((with_reducible apply AP.k_any);first|(refine AP.sm false rfl ?_ ?_;focus (exact PF0))|fail "no step")
          all_goals (try refine NX ?_)
          all_goals refine AP.nil ?_
          all_goals exact ⟨rfl,rfl⟩
        · intro h1 h2
          simp [depsOk,Region.binds] at h1 h2
          subst h1
          (repeat (obtain ⟨rfl,h2⟩:=h2))
          (try subst h2)
          (first|(obtain rfl:l7=true:=by grind only)|skip)
          clear hcl
          all_goals refine CD ?_
          all_goals ((with_reducible apply AP.k_any);first|refine AP.MS ?_|fail "no step")
          all_goals (try refine NX ?_)
          all_goals refine AP.nil ?_
          all_goals exact ⟨rfl,rfl⟩
    simp only [hw]
    repeat' (first|((first|((with_reducible apply AP.k_any);first|refine AP.ST ?_|(refine AP.Y ?_;dsimp only)|refine AP.G (fun hg=>?_) (fun hg=>?_)|(refine AP.V (fun c hnil=>?_);simp only [nz])|refine AP.PF ?_))<;>(try simp only [hw,nq,Nat.reduceBEq,Nat.reduceAdd,Nat.reduceSub]))|refine CP.TN ?_|((with_reducible apply CP.k_reg);refine cp_regG fun Q' hQ'=>?_)|((with_reducible apply CP.k_cond);refine cp_cond rfl (fun hc=>?_) (fun hc=>?_))|(simp only [List.append_eq,List.cons_append,List.nil_append]))
    (exact RetQ.A [(0,0)] (by exact ⟨rfl,rfl⟩))
def Ends.send (x:Ends) (to epoch:Int) (body:List UInt8):(List UInt8×Int)×Ends:=if mayP (x.pkt to epoch body)=true then ((headS (x.pkt to epoch body) ++ tagS x.root (x.pkt to epoch body),0),x.bump to epoch) else (([],2),x)
theorem send_ac (x:Ends) (to epoch:Int) (body:List UInt8) (hr:x.root.length≤10000) (hb:body.length≤60000) (hn:0≤got (to,epoch) x.sent 0∧got (to,epoch) x.sent 0≤1000000000) :
    AC Tryz.prog 58 [.bp 0 0 0,I to,I epoch,bs none body] [xE x] (fun v bs'=>v=.tu [bs none (x.send to epoch body).1.1,I (x.send to epoch body).1.2]∧bs'=[xE (x.send to epoch body).2]):=by
  cases hm:mayP (x.pkt to epoch body) with
  | true=>
    have e:x.send to epoch body=((headS (x.pkt to epoch body) ++ tagS x.root (x.pkt to epoch body),0),x.bump to epoch):=if_pos hm
    rw [e];exact send_ok x to epoch body hr hb hn hm
  | false=>
    have e:x.send to epoch body=(([],2),x):=if_neg (by rw [hm];simp)
    rw [e];exact send_no x to epoch body hr hb hn hm
end Go.Proofs.YtmgneincjfhaoaaGreat

namespace Go.Proofs.YtmgneincjfhaoaaGreat
set_option linter.unusedVariables false
set_option linter.unusedSimpArgs false
set_option maxHeartbeats 8000000
open Go.RowKit
set_option maxRecDepth 100000
abbrev tRd:TypeId:=187
abbrev rB (st:Int×List UInt8):Bx:=.c tRd [B true,bs none st.2,I st.1]
def newR (b:List UInt8):Int×List UInt8:=if 65536 < b.length then (3,[]) else (0,b)
theorem rnew_ac (b:List UInt8) (hb:b.length≤100000000):AC Tryz.prog 80 [bs none b] [] (fun v bs'=>v=.bp 0 0 0∧bs'=[rB (newR b)]):=by
  by_cases h:65536 < b.length
  · have e:newR b=(3,[]):=by simp [newR,h]
    rw [e]
    refine AC.N Tryz.func80 Tryz.ntmps80 ?_
    intro X hρ hmks
    refine NX ?_
    repeat' (first|((first|((with_reducible apply AP.k_any);first|refine AP.S ?_))<;>(try refine NX ?_))|(refine AP.N0 ?_;try clear hQ' Q')|((with_reducible apply CP.k_reg);refine cp_regG fun Q' hQ'=>?_)|refine CP.W ?_|refine cp_cond rfl (fun hc=>?_) (fun hc=>?_)|(simp only [List.append_eq,List.cons_append,List.nil_append]))
    · (exact RetQ.A [(0,1)] (by exact ⟨rfl,rfl⟩))
    · exfalso;simp at *;omega
  · have e:newR b=(0,b):=by simp [newR,h]
    have hcat:=(wcat_ac [b] (by simp) (by simp;omega)).ro (r2:=bs none b) (by simp [AV.ro,ro_B])
    rw [e]
    refine AC.N Tryz.func80 Tryz.ntmps80 ?_
    intro X hρ hmks
    refine NX ?_
    repeat' (first|((first|((with_reducible apply AP.k_any);first|refine AP.Z ?_)|((with_reducible apply AP.k_any);refine AP.C (hcat) ?_)|((with_reducible apply AP.k_any);refine AP.gh (gh_fz (b:=0) (u:=1) rfl rfl (by (repeat' (first|exact FzC.nil|apply FzC.cons|exact FzV.hd|apply FzV.ag|exact FzV.same))) (by (repeat' (first|exact FzB.nil|apply FzB.c|apply FzB.same|exact FzC.nil|apply FzC.cons|exact FzV.hd|apply FzV.ag|exact FzV.same)))) ?_;first|simp only [roE,roC,AV.ro,ro_B,ro_M,ro_E]|simp only [roE,roC,AV.ro,ro_B]))<;>(try refine NX ?_))|(refine AP.N0 ?_;try clear hQ' Q')|((with_reducible apply CP.k_reg);refine cp_regG fun Q' hQ'=>?_)|refine CP.W ?_|refine cp_cond rfl (fun hc=>?_) (fun hc=>?_)|(simp only [List.append_eq,List.cons_append,List.nil_append]))
    · exfalso;simp at *;omega
    · (exact RetQ.A [(0,2)] (by exact ⟨rfl,rfl⟩))
theorem fine_ac (st:Int×List UInt8):AC Tryz.prog 159 [.bp 0 0 0] [rB st] (fun v bs'=>v=B (st.1 == 0)∧bs'=[rB st]):=by
  refine AC.N Tryz.func159 Tryz.ntmps159 ?_
  intro X hρ hmks
  refine NX ?_
  repeat' (first|((first|((with_reducible apply AP.k_any);first|refine AP.S ?_|(refine AP.Y ?_;dsimp only)|refine AP.G (fun hg=>?_) (fun hg=>?_)|(refine AP.V (fun c hnil=>?_);simp only [nz])))<;>(try refine NX ?_))|(refine AP.N0 ?_;try clear hQ' Q')|((with_reducible apply CP.k_reg);refine cp_regG fun Q' hQ'=>?_)|refine CP.W ?_|refine cp_cond rfl (fun hc=>?_) (fun hc=>?_)|(simp only [List.append_eq,List.cons_append,List.nil_append]))
  (exact RetQ.A [(0,0)] (by exact ⟨rfl,rfl⟩))
theorem rbad_ac (st:Int×List UInt8):AC Tryz.prog 160 [.bp 0 0 0] [rB st] (fun v bs'=>v=.tu []∧bs'=[rB (40,[])]):=by
  refine AC.N Tryz.func160 Tryz.ntmps160 ?_
  intro X hρ hmks
  refine NX ?_
  repeat' (first|((first|((with_reducible apply AP.k_any);first|refine AP.S ?_))<;>(try refine NX ?_))|(refine AP.N0 ?_;try clear hQ' Q')|((with_reducible apply CP.k_reg);refine cp_regG fun Q' hQ'=>?_)|refine CP.W ?_|refine cp_cond rfl (fun hc=>?_) (fun hc=>?_)|(simp only [List.append_eq,List.cons_append,List.nil_append]))
  (exact RetQ.A [(0,0)] (by exact ⟨rfl,rfl⟩))
def takeS {α:Type} (z:α) (f:List UInt8→α×Bool) (n:Int) (st:Int×List UInt8):α×(Int×List UInt8):=
  if st.1≠0 then (z,st) else if n < 0∨(st.2.length:Int) < n then (z,(40,[]))
  else if (f (st.2.take n.toNat)).2=true then ((f (st.2.take n.toNat)).1,(0,st.2.drop n.toNat)) else (z,(40,[]))
theorem take1_ac (f:Nat) (g:List UInt8→UInt8×Bool) (n:Int) (st:Int×List UInt8) (hst:st.2.length≤100000000) (hf:∀ b:List UInt8,b.length=n.toNat→b.length≤st.2.length→AC Tryz.prog f [bs none b] [] (fun v bs'=>v=.tu [U (g b).1,B (g b).2]∧bs'=[])) :
    AC Tryz.prog 124 [.bp 0 0 0,I n,.fn f []] [rB st] (fun v bs'=>v=U (takeS (0:UInt8) g n st).1∧bs'=[rB (takeS (0:UInt8) g n st).2]):=by
  obtain ⟨e,b⟩:=st
  by_cases he:e=0
  · subst he
    by_cases hn:n < 0∨(b.length:Int) < n
    · have ht:takeS (0:UInt8) g n (0,b)=((0:UInt8),(40,[])):=by simp only [takeS,hn];simp
      rw [ht]
      refine AC.N Tryz.func124 Tryz.ntmps124 ?_
      intro X hρ hmks
      refine NX ?_
      repeat' (first|((first|((with_reducible apply AP.k_any);first|refine AP.S ?_|(refine AP.Y ?_;dsimp only)|refine AP.G (fun hg=>?_) (fun hg=>?_))|((with_reducible apply AP.k_any);refine AP.CB [(0,0)] 0 (fine_ac (0,b)) ?_)|((with_reducible apply AP.k_any);refine AP.CB [(0,0)] 0 (rbad_ac (0,b)) ?_))<;>(try refine NX ?_))|(refine AP.N0 ?_;try clear hQ' Q')|((with_reducible apply CP.k_reg);refine cp_regG fun Q' hQ'=>?_)|refine CP.W ?_|refine cp_cond rfl (fun hc=>?_) (fun hc=>?_)|(simp only [List.append_eq,List.cons_append,List.nil_append]))
      all_goals first
        | (exfalso;simp at *;done)
        | (exfalso;simp at *;omega)
        | (exact RetQ.A [(0,0)] (by exact ⟨rfl,rfl⟩))
    · have hl:(b.take n.toNat).length=n.toNat:=by simp;omega
      have hf':=hf (b.take n.toNat) hl (by rw [List.length_take];exact Nat.min_le_right _ _)
      have htk:List.take (b.length - n.toNat) (List.drop n.toNat b)=List.drop n.toNat b:=List.take_of_length_le (by simp)
      have hn0:0≤n:=by omega
      have hn1:n≤(b.length:Int):=by omega
      have hm:n≤((b.map eB).length:Int):=by simp;omega
      have ht:takeS (0:UInt8) g n (0,b)=if (g (b.take n.toNat)).2=true then ((g (b.take n.toNat)).1,(0,b.drop n.toNat)) else ((0:UInt8),(40,[])):=by simp only [takeS,hn];simp
      rw [ht]
      cases hg2:(g (b.take n.toNat)).2 with
      | true=>
        rw [hg2] at hf'
        simp only [if_true]
        refine AC.N Tryz.func124 Tryz.ntmps124 ?_
        intro X hρ hmks
        refine NX ?_
        repeat' (first|((first|((with_reducible apply AP.k_any);first|refine AP.S ?_|(refine AP.Y ?_;dsimp only)|refine AP.G (fun hg=>?_) (fun hg=>?_))|((with_reducible apply AP.k_any);refine AP.CB [(0,0)] 0 (fine_ac (0,b)) ?_)|((with_reducible apply AP.k_any);refine ap_callX rfl rfl (fn:=f) rfl hf' (by (repeat' (first|exact PasC.nil|apply PasC.nil|apply PasC.cons|apply PasV.leaf rfl|apply PasV.nl|apply PasV.bp rfl|apply PasV.vp rfl|apply PasV.pz|exact VsM.nil|apply VsM.cons rfl|apply PasV.lend rfl rfl rfl|apply PasV.lend rfl rfl (ro_B _)|apply PasV.lend rfl rfl (ro_M _)|apply PasV.lend rfl rfl (ro_E _ _)|apply PasV.lend rfl rfl (ro_I _)|apply PasV.lend rfl rfl (by (simp only [rn,List.map_cons,List.map_nil];first|done|rfl))|apply PasV.mv rfl|apply PasV.hk rfl|apply PasV.ag|apply PasV.fn|exact PasV.fs|apply PasV.any))) rfl rfl ?_)|((with_reducible apply AP.k_any);refine AP.CB [(0,0)] 0 (rbad_ac (0,b)) ?_))<;>(try refine NX ?_))|(refine AP.N0 ?_;try clear hQ' Q')|((with_reducible apply CP.k_reg);refine cp_regG fun Q' hQ'=>?_)|refine CP.W ?_|refine cp_cond rfl (fun hc=>?_) (fun hc=>?_)|(simp only [List.append_eq,List.cons_append,List.nil_append]))
        all_goals first
          | (exfalso;simp at *;done)
          | (exfalso;simp at *;omega)
          | (simp only [htk]
             (exact RetQ.A [(0,0)] (by exact ⟨rfl,rfl⟩)))
      | false=>
        rw [hg2] at hf'
        simp only [Bool.false_eq_true,if_false]
        refine AC.N Tryz.func124 Tryz.ntmps124 ?_
        intro X hρ hmks
        refine NX ?_
        repeat' (first|((first|((with_reducible apply AP.k_any);first|refine AP.S ?_|(refine AP.Y ?_;dsimp only)|refine AP.G (fun hg=>?_) (fun hg=>?_))|((with_reducible apply AP.k_any);refine AP.CB [(0,0)] 0 (fine_ac (0,b)) ?_)|((with_reducible apply AP.k_any);refine ap_callX rfl rfl (fn:=f) rfl hf' (by (repeat' (first|exact PasC.nil|apply PasC.nil|apply PasC.cons|apply PasV.leaf rfl|apply PasV.nl|apply PasV.bp rfl|apply PasV.vp rfl|apply PasV.pz|exact VsM.nil|apply VsM.cons rfl|apply PasV.lend rfl rfl rfl|apply PasV.lend rfl rfl (ro_B _)|apply PasV.lend rfl rfl (ro_M _)|apply PasV.lend rfl rfl (ro_E _ _)|apply PasV.lend rfl rfl (ro_I _)|apply PasV.lend rfl rfl (by (simp only [rn,List.map_cons,List.map_nil];first|done|rfl))|apply PasV.mv rfl|apply PasV.hk rfl|apply PasV.ag|apply PasV.fn|exact PasV.fs|apply PasV.any))) rfl rfl ?_)|((with_reducible apply AP.k_any);refine AP.CB [(0,0)] 0 (rbad_ac (0,b)) ?_))<;>(try refine NX ?_))|(refine AP.N0 ?_;try clear hQ' Q')|((with_reducible apply CP.k_reg);refine cp_regG fun Q' hQ'=>?_)|refine CP.W ?_|refine cp_cond rfl (fun hc=>?_) (fun hc=>?_)|(simp only [List.append_eq,List.cons_append,List.nil_append]))
        all_goals first
          | (exfalso;simp at *;done)
          | (exfalso;simp at *;omega)
          | (exact RetQ.A [(0,0)] (by exact ⟨rfl,rfl⟩))
  · have ht:takeS (0:UInt8) g n (e,b)=((0:UInt8),(e,b)):=by simp [takeS,he]
    have hb:((e:Int) == 0)=false:=by simp [he]
    rw [ht]
    refine AC.N Tryz.func124 Tryz.ntmps124 ?_
    intro X hρ hmks
    refine NX ?_
    repeat' (first|((first|((with_reducible apply AP.k_any);first|refine AP.S ?_|(refine AP.Y ?_;dsimp only)|refine AP.G (fun hg=>?_) (fun hg=>?_))|((with_reducible apply AP.k_any);refine AP.CB [(0,0)] 0 (fine_ac (e,b)) ?_))<;>(try refine NX ?_))|(refine AP.N0 ?_;try clear hQ' Q')|((with_reducible apply CP.k_reg);refine cp_regG fun Q' hQ'=>?_)|refine CP.W ?_|refine cp_cond rfl (fun hc=>?_) (fun hc=>?_)|(simp only [List.append_eq,List.cons_append,List.nil_append]))
    all_goals first
      | (exfalso;simp at *;done)
      | (exfalso;simp at *;omega)
      | (exact RetQ.A [(0,0)] (by exact ⟨rfl,rfl⟩))
theorem take2_ac (f:Nat) (g:List UInt8→Bool×Bool) (n:Int) (st:Int×List UInt8) (hst:st.2.length≤100000000) (hf:∀ b:List UInt8,b.length=n.toNat→b.length≤st.2.length→AC Tryz.prog f [bs none b] [] (fun v bs'=>v=.tu [B (g b).1,B (g b).2]∧bs'=[])) :
    AC Tryz.prog 220 [.bp 0 0 0,I n,.fn f []] [rB st] (fun v bs'=>v=B (takeS false g n st).1∧bs'=[rB (takeS false g n st).2]):=by
  obtain ⟨e,b⟩:=st
  by_cases he:e=0
  · subst he
    by_cases hn:n < 0∨(b.length:Int) < n
    · have ht:takeS false g n (0,b)=(false,(40,[])):=by simp only [takeS,hn];simp
      rw [ht]
      refine AC.N Tryz.func220 Tryz.ntmps220 ?_
      intro X hρ hmks
      refine NX ?_
      repeat' (first|((first|((with_reducible apply AP.k_any);first|refine AP.S ?_|(refine AP.Y ?_;dsimp only)|refine AP.G (fun hg=>?_) (fun hg=>?_))|((with_reducible apply AP.k_any);refine AP.CB [(0,0)] 0 (fine_ac (0,b)) ?_)|((with_reducible apply AP.k_any);refine AP.CB [(0,0)] 0 (rbad_ac (0,b)) ?_))<;>(try refine NX ?_))|(refine AP.N0 ?_;try clear hQ' Q')|((with_reducible apply CP.k_reg);refine cp_regG fun Q' hQ'=>?_)|refine CP.W ?_|refine cp_cond rfl (fun hc=>?_) (fun hc=>?_)|(simp only [List.append_eq,List.cons_append,List.nil_append]))
      all_goals first
        | (exfalso;simp at *;done)
        | (exfalso;simp at *;omega)
        | (exact RetQ.A [(0,0)] (by exact ⟨rfl,rfl⟩))
    · have hl:(b.take n.toNat).length=n.toNat:=by simp;omega
      have hf':=hf (b.take n.toNat) hl (by rw [List.length_take];exact Nat.min_le_right _ _)
      have htk:List.take (b.length - n.toNat) (List.drop n.toNat b)=List.drop n.toNat b:=List.take_of_length_le (by simp)
      have hn0:0≤n:=by omega
      have hn1:n≤(b.length:Int):=by omega
      have hm:n≤((b.map eB).length:Int):=by simp;omega
      have ht:takeS false g n (0,b)=if (g (b.take n.toNat)).2=true then ((g (b.take n.toNat)).1,(0,b.drop n.toNat)) else (false,(40,[])):=by simp only [takeS,hn];simp
      rw [ht]
      cases hg2:(g (b.take n.toNat)).2 with
      | true=>
        rw [hg2] at hf'
        simp only [if_true]
        refine AC.N Tryz.func220 Tryz.ntmps220 ?_
        intro X hρ hmks
        refine NX ?_
        repeat' (first|((first|((with_reducible apply AP.k_any);first|refine AP.S ?_|(refine AP.Y ?_;dsimp only)|refine AP.G (fun hg=>?_) (fun hg=>?_))|((with_reducible apply AP.k_any);refine AP.CB [(0,0)] 0 (fine_ac (0,b)) ?_)|((with_reducible apply AP.k_any);refine ap_callX rfl rfl (fn:=f) rfl hf' (by (repeat' (first|exact PasC.nil|apply PasC.nil|apply PasC.cons|apply PasV.leaf rfl|apply PasV.nl|apply PasV.bp rfl|apply PasV.vp rfl|apply PasV.pz|exact VsM.nil|apply VsM.cons rfl|apply PasV.lend rfl rfl rfl|apply PasV.lend rfl rfl (ro_B _)|apply PasV.lend rfl rfl (ro_M _)|apply PasV.lend rfl rfl (ro_E _ _)|apply PasV.lend rfl rfl (ro_I _)|apply PasV.lend rfl rfl (by (simp only [rn,List.map_cons,List.map_nil];first|done|rfl))|apply PasV.mv rfl|apply PasV.hk rfl|apply PasV.ag|apply PasV.fn|exact PasV.fs|apply PasV.any))) rfl rfl ?_)|((with_reducible apply AP.k_any);refine AP.CB [(0,0)] 0 (rbad_ac (0,b)) ?_))<;>(try refine NX ?_))|(refine AP.N0 ?_;try clear hQ' Q')|((with_reducible apply CP.k_reg);refine cp_regG fun Q' hQ'=>?_)|refine CP.W ?_|refine cp_cond rfl (fun hc=>?_) (fun hc=>?_)|(simp only [List.append_eq,List.cons_append,List.nil_append]))
        all_goals first
          | (exfalso;simp at *;done)
          | (exfalso;simp at *;omega)
          | (simp only [htk]
             (exact RetQ.A [(0,0)] (by exact ⟨rfl,rfl⟩)))
      | false=>
        rw [hg2] at hf'
        simp only [Bool.false_eq_true,if_false]
        refine AC.N Tryz.func220 Tryz.ntmps220 ?_
        intro X hρ hmks
        refine NX ?_
        repeat' (first|((first|((with_reducible apply AP.k_any);first|refine AP.S ?_|(refine AP.Y ?_;dsimp only)|refine AP.G (fun hg=>?_) (fun hg=>?_))|((with_reducible apply AP.k_any);refine AP.CB [(0,0)] 0 (fine_ac (0,b)) ?_)|((with_reducible apply AP.k_any);refine ap_callX rfl rfl (fn:=f) rfl hf' (by (repeat' (first|exact PasC.nil|apply PasC.nil|apply PasC.cons|apply PasV.leaf rfl|apply PasV.nl|apply PasV.bp rfl|apply PasV.vp rfl|apply PasV.pz|exact VsM.nil|apply VsM.cons rfl|apply PasV.lend rfl rfl rfl|apply PasV.lend rfl rfl (ro_B _)|apply PasV.lend rfl rfl (ro_M _)|apply PasV.lend rfl rfl (ro_E _ _)|apply PasV.lend rfl rfl (ro_I _)|apply PasV.lend rfl rfl (by (simp only [rn,List.map_cons,List.map_nil];first|done|rfl))|apply PasV.mv rfl|apply PasV.hk rfl|apply PasV.ag|apply PasV.fn|exact PasV.fs|apply PasV.any))) rfl rfl ?_)|((with_reducible apply AP.k_any);refine AP.CB [(0,0)] 0 (rbad_ac (0,b)) ?_))<;>(try refine NX ?_))|(refine AP.N0 ?_;try clear hQ' Q')|((with_reducible apply CP.k_reg);refine cp_regG fun Q' hQ'=>?_)|refine CP.W ?_|refine cp_cond rfl (fun hc=>?_) (fun hc=>?_)|(simp only [List.append_eq,List.cons_append,List.nil_append]))
        all_goals first
          | (exfalso;simp at *;done)
          | (exfalso;simp at *;omega)
          | (exact RetQ.A [(0,0)] (by exact ⟨rfl,rfl⟩))
  · have ht:takeS false g n (e,b)=(false,(e,b)):=by simp [takeS,he]
    have hb:((e:Int) == 0)=false:=by simp [he]
    rw [ht]
    refine AC.N Tryz.func220 Tryz.ntmps220 ?_
    intro X hρ hmks
    refine NX ?_
    repeat' (first|((first|((with_reducible apply AP.k_any);first|refine AP.S ?_|(refine AP.Y ?_;dsimp only)|refine AP.G (fun hg=>?_) (fun hg=>?_))|((with_reducible apply AP.k_any);refine AP.CB [(0,0)] 0 (fine_ac (e,b)) ?_))<;>(try refine NX ?_))|(refine AP.N0 ?_;try clear hQ' Q')|((with_reducible apply CP.k_reg);refine cp_regG fun Q' hQ'=>?_)|refine CP.W ?_|refine cp_cond rfl (fun hc=>?_) (fun hc=>?_)|(simp only [List.append_eq,List.cons_append,List.nil_append]))
    all_goals first
      | (exfalso;simp at *;done)
      | (exfalso;simp at *;omega)
      | (exact RetQ.A [(0,0)] (by exact ⟨rfl,rfl⟩))
theorem take3_ac (f:Nat) (g:List UInt8→Int×Bool) (n:Int) (st:Int×List UInt8) (hst:st.2.length≤100000000) (hf:∀ b:List UInt8,b.length=n.toNat→b.length≤st.2.length→AC Tryz.prog f [bs none b] [] (fun v bs'=>v=.tu [I (g b).1,B (g b).2]∧bs'=[])) :
    AC Tryz.prog 146 [.bp 0 0 0,I n,.fn f []] [rB st] (fun v bs'=>v=I (takeS (0:Int) g n st).1∧bs'=[rB (takeS (0:Int) g n st).2]):=by
  obtain ⟨e,b⟩:=st
  by_cases he:e=0
  · subst he
    by_cases hn:n < 0∨(b.length:Int) < n
    · have ht:takeS (0:Int) g n (0,b)=((0:Int),(40,[])):=by simp only [takeS,hn];simp
      rw [ht]
      refine AC.N Tryz.func146 Tryz.ntmps146 ?_
      intro X hρ hmks
      refine NX ?_
      repeat' (first|((first|((with_reducible apply AP.k_any);first|refine AP.S ?_|(refine AP.Y ?_;dsimp only)|refine AP.G (fun hg=>?_) (fun hg=>?_))|((with_reducible apply AP.k_any);refine AP.CB [(0,0)] 0 (fine_ac (0,b)) ?_)|((with_reducible apply AP.k_any);refine AP.CB [(0,0)] 0 (rbad_ac (0,b)) ?_))<;>(try refine NX ?_))|(refine AP.N0 ?_;try clear hQ' Q')|((with_reducible apply CP.k_reg);refine cp_regG fun Q' hQ'=>?_)|refine CP.W ?_|refine cp_cond rfl (fun hc=>?_) (fun hc=>?_)|(simp only [List.append_eq,List.cons_append,List.nil_append]))
      all_goals first
        | (exfalso;simp at *;done)
        | (exfalso;simp at *;omega)
        | (exact RetQ.A [(0,0)] (by exact ⟨rfl,rfl⟩))
    · have hl:(b.take n.toNat).length=n.toNat:=by simp;omega
      have hf':=hf (b.take n.toNat) hl (by rw [List.length_take];exact Nat.min_le_right _ _)
      have htk:List.take (b.length - n.toNat) (List.drop n.toNat b)=List.drop n.toNat b:=List.take_of_length_le (by simp)
      have hn0:0≤n:=by omega
      have hn1:n≤(b.length:Int):=by omega
      have hm:n≤((b.map eB).length:Int):=by simp;omega
      have ht:takeS (0:Int) g n (0,b)=if (g (b.take n.toNat)).2=true then ((g (b.take n.toNat)).1,(0,b.drop n.toNat)) else ((0:Int),(40,[])):=by simp only [takeS,hn];simp
      rw [ht]
      cases hg2:(g (b.take n.toNat)).2 with
      | true=>
        rw [hg2] at hf'
        simp only [if_true]
        refine AC.N Tryz.func146 Tryz.ntmps146 ?_
        intro X hρ hmks
        refine NX ?_
        repeat' (first|((first|((with_reducible apply AP.k_any);first|refine AP.S ?_|(refine AP.Y ?_;dsimp only)|refine AP.G (fun hg=>?_) (fun hg=>?_))|((with_reducible apply AP.k_any);refine AP.CB [(0,0)] 0 (fine_ac (0,b)) ?_)|((with_reducible apply AP.k_any);refine ap_callX rfl rfl (fn:=f) rfl hf' (by (repeat' (first|exact PasC.nil|apply PasC.nil|apply PasC.cons|apply PasV.leaf rfl|apply PasV.nl|apply PasV.bp rfl|apply PasV.vp rfl|apply PasV.pz|exact VsM.nil|apply VsM.cons rfl|apply PasV.lend rfl rfl rfl|apply PasV.lend rfl rfl (ro_B _)|apply PasV.lend rfl rfl (ro_M _)|apply PasV.lend rfl rfl (ro_E _ _)|apply PasV.lend rfl rfl (ro_I _)|apply PasV.lend rfl rfl (by (simp only [rn,List.map_cons,List.map_nil];first|done|rfl))|apply PasV.mv rfl|apply PasV.hk rfl|apply PasV.ag|apply PasV.fn|exact PasV.fs|apply PasV.any))) rfl rfl ?_)|((with_reducible apply AP.k_any);refine AP.CB [(0,0)] 0 (rbad_ac (0,b)) ?_))<;>(try refine NX ?_))|(refine AP.N0 ?_;try clear hQ' Q')|((with_reducible apply CP.k_reg);refine cp_regG fun Q' hQ'=>?_)|refine CP.W ?_|refine cp_cond rfl (fun hc=>?_) (fun hc=>?_)|(simp only [List.append_eq,List.cons_append,List.nil_append]))
        all_goals first
          | (exfalso;simp at *;done)
          | (exfalso;simp at *;omega)
          | (simp only [htk]
             (exact RetQ.A [(0,0)] (by exact ⟨rfl,rfl⟩)))
      | false=>
        rw [hg2] at hf'
        simp only [Bool.false_eq_true,if_false]
        refine AC.N Tryz.func146 Tryz.ntmps146 ?_
        intro X hρ hmks
        refine NX ?_
        repeat' (first|((first|((with_reducible apply AP.k_any);first|refine AP.S ?_|(refine AP.Y ?_;dsimp only)|refine AP.G (fun hg=>?_) (fun hg=>?_))|((with_reducible apply AP.k_any);refine AP.CB [(0,0)] 0 (fine_ac (0,b)) ?_)|((with_reducible apply AP.k_any);refine ap_callX rfl rfl (fn:=f) rfl hf' (by (repeat' (first|exact PasC.nil|apply PasC.nil|apply PasC.cons|apply PasV.leaf rfl|apply PasV.nl|apply PasV.bp rfl|apply PasV.vp rfl|apply PasV.pz|exact VsM.nil|apply VsM.cons rfl|apply PasV.lend rfl rfl rfl|apply PasV.lend rfl rfl (ro_B _)|apply PasV.lend rfl rfl (ro_M _)|apply PasV.lend rfl rfl (ro_E _ _)|apply PasV.lend rfl rfl (ro_I _)|apply PasV.lend rfl rfl (by (simp only [rn,List.map_cons,List.map_nil];first|done|rfl))|apply PasV.mv rfl|apply PasV.hk rfl|apply PasV.ag|apply PasV.fn|exact PasV.fs|apply PasV.any))) rfl rfl ?_)|((with_reducible apply AP.k_any);refine AP.CB [(0,0)] 0 (rbad_ac (0,b)) ?_))<;>(try refine NX ?_))|(refine AP.N0 ?_;try clear hQ' Q')|((with_reducible apply CP.k_reg);refine cp_regG fun Q' hQ'=>?_)|refine CP.W ?_|refine cp_cond rfl (fun hc=>?_) (fun hc=>?_)|(simp only [List.append_eq,List.cons_append,List.nil_append]))
        all_goals first
          | (exfalso;simp at *;done)
          | (exfalso;simp at *;omega)
          | (exact RetQ.A [(0,0)] (by exact ⟨rfl,rfl⟩))
  · have ht:takeS (0:Int) g n (e,b)=((0:Int),(e,b)):=by simp [takeS,he]
    have hb:((e:Int) == 0)=false:=by simp [he]
    rw [ht]
    refine AC.N Tryz.func146 Tryz.ntmps146 ?_
    intro X hρ hmks
    refine NX ?_
    repeat' (first|((first|((with_reducible apply AP.k_any);first|refine AP.S ?_|(refine AP.Y ?_;dsimp only)|refine AP.G (fun hg=>?_) (fun hg=>?_))|((with_reducible apply AP.k_any);refine AP.CB [(0,0)] 0 (fine_ac (e,b)) ?_))<;>(try refine NX ?_))|(refine AP.N0 ?_;try clear hQ' Q')|((with_reducible apply CP.k_reg);refine cp_regG fun Q' hQ'=>?_)|refine CP.W ?_|refine cp_cond rfl (fun hc=>?_) (fun hc=>?_)|(simp only [List.append_eq,List.cons_append,List.nil_append]))
    all_goals first
      | (exfalso;simp at *;done)
      | (exfalso;simp at *;omega)
      | (exact RetQ.A [(0,0)] (by exact ⟨rfl,rfl⟩))
theorem take4_ac (f:Nat) (g:List UInt8→List UInt8×Bool) (n:Int) (st:Int×List UInt8) (hst:st.2.length≤100000000) (hf:∀ b:List UInt8,b.length=n.toNat→b.length≤st.2.length→AC Tryz.prog f [bs none b] [] (fun v bs'=>v=.tu [bs none (g b).1,B (g b).2]∧bs'=[])) :
    AC Tryz.prog 151 [.bp 0 0 0,I n,.fn f []] [rB st] (fun v bs'=>v=bs none (takeS ([]:List UInt8) g n st).1∧bs'=[rB (takeS ([]:List UInt8) g n st).2]):=by
  obtain ⟨e,b⟩:=st
  by_cases he:e=0
  · subst he
    by_cases hn:n < 0∨(b.length:Int) < n
    · have ht:takeS ([]:List UInt8) g n (0,b)=(([]:List UInt8),(40,[])):=by simp only [takeS,hn];simp
      rw [ht]
      refine AC.N Tryz.func151 Tryz.ntmps151 ?_
      intro X hρ hmks
      refine NX ?_
      repeat' (first|((first|((with_reducible apply AP.k_any);first|refine AP.S ?_|(refine AP.Y ?_;dsimp only)|refine AP.G (fun hg=>?_) (fun hg=>?_))|((with_reducible apply AP.k_any);refine AP.CB [(0,0)] 0 (fine_ac (0,b)) ?_)|((with_reducible apply AP.k_any);refine AP.CB [(0,0)] 0 (rbad_ac (0,b)) ?_))<;>(try refine NX ?_))|(refine AP.N0 ?_;try clear hQ' Q')|((with_reducible apply CP.k_reg);refine cp_regG fun Q' hQ'=>?_)|refine CP.W ?_|refine cp_cond rfl (fun hc=>?_) (fun hc=>?_)|(simp only [List.append_eq,List.cons_append,List.nil_append]))
      all_goals first
        | (exfalso;simp at *;done)
        | (exfalso;simp at *;omega)
        | (exact RetQ.A [(0,0)] (by exact ⟨rfl,rfl⟩))
    · have hl:(b.take n.toNat).length=n.toNat:=by simp;omega
      have hf':=hf (b.take n.toNat) hl (by rw [List.length_take];exact Nat.min_le_right _ _)
      have htk:List.take (b.length - n.toNat) (List.drop n.toNat b)=List.drop n.toNat b:=List.take_of_length_le (by simp)
      have hn0:0≤n:=by omega
      have hn1:n≤(b.length:Int):=by omega
      have hm:n≤((b.map eB).length:Int):=by simp;omega
      have ht:takeS ([]:List UInt8) g n (0,b)=if (g (b.take n.toNat)).2=true then ((g (b.take n.toNat)).1,(0,b.drop n.toNat)) else (([]:List UInt8),(40,[])):=by simp only [takeS,hn];simp
      rw [ht]
      cases hg2:(g (b.take n.toNat)).2 with
      | true=>
        rw [hg2] at hf'
        simp only [if_true]
        refine AC.N Tryz.func151 Tryz.ntmps151 ?_
        intro X hρ hmks
        refine NX ?_
        repeat' (first|((first|((with_reducible apply AP.k_any);first|refine AP.S ?_|(refine AP.Y ?_;dsimp only)|refine AP.G (fun hg=>?_) (fun hg=>?_))|((with_reducible apply AP.k_any);refine AP.CB [(0,0)] 0 (fine_ac (0,b)) ?_)|((with_reducible apply AP.k_any);refine ap_callX rfl rfl (fn:=f) rfl hf' (by (repeat' (first|exact PasC.nil|apply PasC.nil|apply PasC.cons|apply PasV.leaf rfl|apply PasV.nl|apply PasV.bp rfl|apply PasV.vp rfl|apply PasV.pz|exact VsM.nil|apply VsM.cons rfl|apply PasV.lend rfl rfl rfl|apply PasV.lend rfl rfl (ro_B _)|apply PasV.lend rfl rfl (ro_M _)|apply PasV.lend rfl rfl (ro_E _ _)|apply PasV.lend rfl rfl (ro_I _)|apply PasV.lend rfl rfl (by (simp only [rn,List.map_cons,List.map_nil];first|done|rfl))|apply PasV.mv rfl|apply PasV.hk rfl|apply PasV.ag|apply PasV.fn|exact PasV.fs|apply PasV.any))) rfl rfl ?_)|((with_reducible apply AP.k_any);refine AP.CB [(0,0)] 0 (rbad_ac (0,b)) ?_))<;>(try refine NX ?_))|(refine AP.N0 ?_;try clear hQ' Q')|((with_reducible apply CP.k_reg);refine cp_regG fun Q' hQ'=>?_)|refine CP.W ?_|refine cp_cond rfl (fun hc=>?_) (fun hc=>?_)|(simp only [List.append_eq,List.cons_append,List.nil_append]))
        all_goals first
          | (exfalso;simp at *;done)
          | (exfalso;simp at *;omega)
          | (simp only [htk]
             (exact RetQ.A [(0,0)] (by exact ⟨rfl,rfl⟩)))
      | false=>
        rw [hg2] at hf'
        simp only [Bool.false_eq_true,if_false]
        refine AC.N Tryz.func151 Tryz.ntmps151 ?_
        intro X hρ hmks
        refine NX ?_
        repeat' (first|((first|((with_reducible apply AP.k_any);first|refine AP.S ?_|(refine AP.Y ?_;dsimp only)|refine AP.G (fun hg=>?_) (fun hg=>?_))|((with_reducible apply AP.k_any);refine AP.CB [(0,0)] 0 (fine_ac (0,b)) ?_)|((with_reducible apply AP.k_any);refine ap_callX rfl rfl (fn:=f) rfl hf' (by (repeat' (first|exact PasC.nil|apply PasC.nil|apply PasC.cons|apply PasV.leaf rfl|apply PasV.nl|apply PasV.bp rfl|apply PasV.vp rfl|apply PasV.pz|exact VsM.nil|apply VsM.cons rfl|apply PasV.lend rfl rfl rfl|apply PasV.lend rfl rfl (ro_B _)|apply PasV.lend rfl rfl (ro_M _)|apply PasV.lend rfl rfl (ro_E _ _)|apply PasV.lend rfl rfl (ro_I _)|apply PasV.lend rfl rfl (by (simp only [rn,List.map_cons,List.map_nil];first|done|rfl))|apply PasV.mv rfl|apply PasV.hk rfl|apply PasV.ag|apply PasV.fn|exact PasV.fs|apply PasV.any))) rfl rfl ?_)|((with_reducible apply AP.k_any);refine AP.CB [(0,0)] 0 (rbad_ac (0,b)) ?_))<;>(try refine NX ?_))|(refine AP.N0 ?_;try clear hQ' Q')|((with_reducible apply CP.k_reg);refine cp_regG fun Q' hQ'=>?_)|refine CP.W ?_|refine cp_cond rfl (fun hc=>?_) (fun hc=>?_)|(simp only [List.append_eq,List.cons_append,List.nil_append]))
        all_goals first
          | (exfalso;simp at *;done)
          | (exfalso;simp at *;omega)
          | (exact RetQ.A [(0,0)] (by exact ⟨rfl,rfl⟩))
  · have ht:takeS ([]:List UInt8) g n (e,b)=(([]:List UInt8),(e,b)):=by simp [takeS,he]
    have hb:((e:Int) == 0)=false:=by simp [he]
    rw [ht]
    refine AC.N Tryz.func151 Tryz.ntmps151 ?_
    intro X hρ hmks
    refine NX ?_
    repeat' (first|((first|((with_reducible apply AP.k_any);first|refine AP.S ?_|(refine AP.Y ?_;dsimp only)|refine AP.G (fun hg=>?_) (fun hg=>?_))|((with_reducible apply AP.k_any);refine AP.CB [(0,0)] 0 (fine_ac (e,b)) ?_))<;>(try refine NX ?_))|(refine AP.N0 ?_;try clear hQ' Q')|((with_reducible apply CP.k_reg);refine cp_regG fun Q' hQ'=>?_)|refine CP.W ?_|refine cp_cond rfl (fun hc=>?_) (fun hc=>?_)|(simp only [List.append_eq,List.cons_append,List.nil_append]))
    all_goals first
      | (exfalso;simp at *;done)
      | (exfalso;simp at *;omega)
      | (exact RetQ.A [(0,0)] (by exact ⟨rfl,rfl⟩))
abbrev iB (x:Int):Bx:=.c 3 [I x]
theorem take5_ac (m l:Int) (f:Nat) (g:List UInt8→Int×Bool) (n:Int) (st:Int×List UInt8) (hst:st.2.length≤100000000) (hf:∀ b:List UInt8,b.length=n.toNat→b.length≤st.2.length→AC Tryz.prog f [bs none b,.bp 0 0 0,.bp 1 0 0] [iB m,iB l] (fun v bs'=>v=.tu [I (g b).1,B (g b).2]∧bs'=[iB m,iB l])) :
    AC Tryz.prog 146 [.bp 0 0 0,I n,.fn f [.bp 1 0 0,.bp 2 0 0]] [rB st,iB m,iB l] (fun v bs'=>v=I (takeS (0:Int) g n st).1∧bs'=[rB (takeS (0:Int) g n st).2,iB m,iB l]):=by
  obtain ⟨e,b⟩:=st
  by_cases he:e=0
  · subst he
    by_cases hn:n < 0∨(b.length:Int) < n
    · have ht:takeS (0:Int) g n (0,b)=((0:Int),(40,[])):=by simp only [takeS,hn];simp
      rw [ht]
      refine AC.N Tryz.func146 Tryz.ntmps146 ?_
      intro X hρ hmks
      refine NX ?_
      repeat' (first|((first|((with_reducible apply AP.k_any);first|refine AP.S ?_|(refine AP.Y ?_;dsimp only)|refine AP.G (fun hg=>?_) (fun hg=>?_))|((with_reducible apply AP.k_any);refine AP.CB [(0,0)] 0 (fine_ac (0,b)) ?_)|((with_reducible apply AP.k_any);refine AP.CB [(0,0)] 0 (rbad_ac (0,b)) ?_))<;>(try refine NX ?_))|(refine AP.N0 ?_;try clear hQ' Q')|((with_reducible apply CP.k_reg);refine cp_regG fun Q' hQ'=>?_)|refine CP.W ?_|refine cp_cond rfl (fun hc=>?_) (fun hc=>?_)|(simp only [List.append_eq,List.cons_append,List.nil_append]))
      all_goals first
        | (exfalso;simp at *;done)
        | (exfalso;simp at *;omega)
        | (exact RetQ.A [(0,0),(1,0),(2,0)] (by exact ⟨rfl,rfl⟩))
    · have hl:(b.take n.toNat).length=n.toNat:=by simp;omega
      have hf':=hf (b.take n.toNat) hl (by rw [List.length_take];exact Nat.min_le_right _ _)
      have htk:List.take (b.length - n.toNat) (List.drop n.toNat b)=List.drop n.toNat b:=List.take_of_length_le (by simp)
      have hn0:0≤n:=by omega
      have hn1:n≤(b.length:Int):=by omega
      have hm:n≤((b.map eB).length:Int):=by simp;omega
      have ht:takeS (0:Int) g n (0,b)=if (g (b.take n.toNat)).2=true then ((g (b.take n.toNat)).1,(0,b.drop n.toNat)) else ((0:Int),(40,[])):=by simp only [takeS,hn];simp
      rw [ht]
      cases hg2:(g (b.take n.toNat)).2 with
      | true=>
        rw [hg2] at hf'
        simp only [if_true]
        refine AC.N Tryz.func146 Tryz.ntmps146 ?_
        intro X hρ hmks
        refine NX ?_
        repeat' (first|((first|((with_reducible apply AP.k_any);first|refine AP.S ?_|(refine AP.Y ?_;dsimp only)|refine AP.G (fun hg=>?_) (fun hg=>?_))|((with_reducible apply AP.k_any);refine AP.CB [(0,0)] 0 (fine_ac (0,b)) ?_)|((with_reducible apply AP.k_any);refine ap_callB 0 [(1,0),(2,0)] rfl rfl (fn:=f) rfl hf' (by (repeat' (first|exact PasC.nil|apply PasC.nil|apply PasC.cons|apply PasV.leaf rfl|apply PasV.nl|apply PasV.bp rfl|apply PasV.vp rfl|apply PasV.pz|exact VsM.nil|apply VsM.cons rfl|apply PasV.lend rfl rfl rfl|apply PasV.lend rfl rfl (ro_B _)|apply PasV.lend rfl rfl (ro_M _)|apply PasV.lend rfl rfl (ro_E _ _)|apply PasV.lend rfl rfl (ro_I _)|apply PasV.lend rfl rfl (by (simp only [rn,List.map_cons,List.map_nil];first|done|rfl))|apply PasV.mv rfl|apply PasV.hk rfl|apply PasV.ag|apply PasV.fn|exact PasV.fs|apply PasV.any))) (by (repeat' (first|exact ClsC.nil|apply ClsC.nl|apply ClsC.leaf rfl|apply ClsC.hd rfl|apply ClsC.ob rfl|apply ClsC.mo rfl|apply ClsC.mp rfl|apply ClsC.hp rfl|exact Out.nil|apply Out.cons rfl|apply Out.r rfl|apply Out.f rfl|apply ClsC.fn|apply ClsC.fz rfl (ro_B _)|apply ClsC.fz rfl (ro_M _)|apply ClsC.fz rfl (ro_E _ _)|apply ClsC.fz rfl rfl))) rfl (by (repeat' (first|exact Bk.nil|apply Bk.cons rfl rfl rfl|apply Bk.r rfl))) (by (repeat' (first|exact RnV.leaf rfl|exact RnV.fs|exact RnC.nil|apply RnC.cons|apply RnV.ag|apply RnV.tu|apply RnV.fn|exact RnV.bp rfl))) rfl ?_)|((with_reducible apply AP.k_any);refine AP.CB [(0,0)] 0 (rbad_ac (0,b)) ?_))<;>(try refine NX ?_))|(refine AP.N0 ?_;try clear hQ' Q')|((with_reducible apply CP.k_reg);refine cp_regG fun Q' hQ'=>?_)|refine CP.W ?_|refine cp_cond rfl (fun hc=>?_) (fun hc=>?_)|(simp only [List.append_eq,List.cons_append,List.nil_append]))
        all_goals first
          | (exfalso;simp at *;done)
          | (exfalso;simp at *;omega)
          | (simp only [htk]
             (exact RetQ.A [(0,0),(1,0),(2,0)] (by exact ⟨rfl,rfl⟩)))
      | false=>
        rw [hg2] at hf'
        simp only [Bool.false_eq_true,if_false]
        refine AC.N Tryz.func146 Tryz.ntmps146 ?_
        intro X hρ hmks
        refine NX ?_
        repeat' (first|((first|((with_reducible apply AP.k_any);first|refine AP.S ?_|(refine AP.Y ?_;dsimp only)|refine AP.G (fun hg=>?_) (fun hg=>?_))|((with_reducible apply AP.k_any);refine AP.CB [(0,0)] 0 (fine_ac (0,b)) ?_)|((with_reducible apply AP.k_any);refine ap_callB 0 [(1,0),(2,0)] rfl rfl (fn:=f) rfl hf' (by (repeat' (first|exact PasC.nil|apply PasC.nil|apply PasC.cons|apply PasV.leaf rfl|apply PasV.nl|apply PasV.bp rfl|apply PasV.vp rfl|apply PasV.pz|exact VsM.nil|apply VsM.cons rfl|apply PasV.lend rfl rfl rfl|apply PasV.lend rfl rfl (ro_B _)|apply PasV.lend rfl rfl (ro_M _)|apply PasV.lend rfl rfl (ro_E _ _)|apply PasV.lend rfl rfl (ro_I _)|apply PasV.lend rfl rfl (by (simp only [rn,List.map_cons,List.map_nil];first|done|rfl))|apply PasV.mv rfl|apply PasV.hk rfl|apply PasV.ag|apply PasV.fn|exact PasV.fs|apply PasV.any))) (by (repeat' (first|exact ClsC.nil|apply ClsC.nl|apply ClsC.leaf rfl|apply ClsC.hd rfl|apply ClsC.ob rfl|apply ClsC.mo rfl|apply ClsC.mp rfl|apply ClsC.hp rfl|exact Out.nil|apply Out.cons rfl|apply Out.r rfl|apply Out.f rfl|apply ClsC.fn|apply ClsC.fz rfl (ro_B _)|apply ClsC.fz rfl (ro_M _)|apply ClsC.fz rfl (ro_E _ _)|apply ClsC.fz rfl rfl))) rfl (by (repeat' (first|exact Bk.nil|apply Bk.cons rfl rfl rfl|apply Bk.r rfl))) (by (repeat' (first|exact RnV.leaf rfl|exact RnV.fs|exact RnC.nil|apply RnC.cons|apply RnV.ag|apply RnV.tu|apply RnV.fn|exact RnV.bp rfl))) rfl ?_)|((with_reducible apply AP.k_any);refine AP.CB [(0,0)] 0 (rbad_ac (0,b)) ?_))<;>(try refine NX ?_))|(refine AP.N0 ?_;try clear hQ' Q')|((with_reducible apply CP.k_reg);refine cp_regG fun Q' hQ'=>?_)|refine CP.W ?_|refine cp_cond rfl (fun hc=>?_) (fun hc=>?_)|(simp only [List.append_eq,List.cons_append,List.nil_append]))
        all_goals first
          | (exfalso;simp at *;done)
          | (exfalso;simp at *;omega)
          | (exact RetQ.A [(0,0),(1,0),(2,0)] (by exact ⟨rfl,rfl⟩))
  · have ht:takeS (0:Int) g n (e,b)=((0:Int),(e,b)):=by simp [takeS,he]
    have hb:((e:Int) == 0)=false:=by simp [he]
    rw [ht]
    refine AC.N Tryz.func146 Tryz.ntmps146 ?_
    intro X hρ hmks
    refine NX ?_
    repeat' (first|((first|((with_reducible apply AP.k_any);first|refine AP.S ?_|(refine AP.Y ?_;dsimp only)|refine AP.G (fun hg=>?_) (fun hg=>?_))|((with_reducible apply AP.k_any);refine AP.CB [(0,0)] 0 (fine_ac (e,b)) ?_))<;>(try refine NX ?_))|(refine AP.N0 ?_;try clear hQ' Q')|((with_reducible apply CP.k_reg);refine cp_regG fun Q' hQ'=>?_)|refine CP.W ?_|refine cp_cond rfl (fun hc=>?_) (fun hc=>?_)|(simp only [List.append_eq,List.cons_append,List.nil_append]))
    all_goals first
      | (exfalso;simp at *;done)
      | (exfalso;simp at *;omega)
      | (exact RetQ.A [(0,0),(1,0),(2,0)] (by exact ⟨rfl,rfl⟩))
end Go.Proofs.YtmgneincjfhaoaaGreat

namespace Go.Proofs.YtmgneincjfhaoaaGreat
set_option linter.unusedVariables false
set_option linter.unusedSimpArgs false
set_option maxHeartbeats 8000000
open Go.RowKit
set_option maxRecDepth 100000
theorem load64_ac (b:List UInt8) (hb:b.length≤100000000):AC Tryz.prog 148 [bs none b,I 0] [] (fun v bs'=>v=.tu [.sc (.int .u64 ((loadS b 0 8).1:Int)),B (loadS b 0 8).2]∧bs'=[]):=by
  have h:=load_ac b 0 8 (by omega) hb (by omega) (by omega)
  refine AC.N Tryz.func148 Tryz.ntmps148 ?_
  intro X hρ hmks
  refine NX ?_
  repeat' (first|((first|((with_reducible apply AP.k_any);first|refine AP.S ?_)|((with_reducible apply AP.k_any);refine AP.C (h) ?_))<;>(try refine NX ?_))|(refine AP.N0 ?_;try clear hQ' Q')|((with_reducible apply CP.k_reg);refine cp_regG fun Q' hQ'=>?_)|refine CP.W ?_|refine cp_cond rfl (fun hc=>?_) (fun hc=>?_)|(simp only [List.append_eq,List.cons_append,List.nil_append]))
  (refine RetQ.B [] ?_;(try dsimp only [resV,List.getD_cons_succ,List.getD_cons_zero]);(exact ⟨rfl,rfl⟩))
theorem ldw32_ac (b:List UInt8) (hb:b.length≤100000000):AC Tryz.prog 150 [bs none b,I 0] [] (fun v bs'=>v=.tu [.sc (.int .u32 ((loadS b 0 4).1:Int)),B (loadS b 0 4).2]∧bs'=[]):=by
  have h:=load_ac b 0 4 (by omega) hb (by omega) (by omega)
  have hw:IntKind.u32.wrap ((loadS b 0 4).1:Int)=((loadS b 0 4).1:Int):=by
    have h1:(loadS b 0 4).1 < 4294967296:=by
      unfold loadS
      split
      · simp
      · have:=beN_lt ((b.drop (0:Int).toNat).take 4)
        have h2:256 ^ ((b.drop (0:Int).toNat).take 4).length≤256 ^ 4:=Nat.pow_le_pow_right (by omega) (by simp;omega)
        simp at this h2 ⊢
        omega
    simp [IntKind.wrap,IntKind.bits,IntKind.signed];omega
  refine AC.N Tryz.func150 Tryz.ntmps150 ?_
  intro X hρ hmks
  refine NX ?_
  repeat' (first|((first|((with_reducible apply AP.k_any);first|refine AP.S ?_)|((with_reducible apply AP.k_any);refine AP.C (h) ?_))<;>(try refine NX ?_))|(refine AP.N0 ?_;try clear hQ' Q')|((with_reducible apply CP.k_reg);refine cp_regG fun Q' hQ'=>?_)|refine CP.W ?_|refine cp_cond rfl (fun hc=>?_) (fun hc=>?_)|(simp only [List.append_eq,List.cons_append,List.nil_append]))
  simp only [hw]
  (refine RetQ.B [] ?_;(try dsimp only [resV,List.getD_cons_succ,List.getD_cons_zero]);(exact ⟨rfl,rfl⟩))
theorem loadS_all {b:List UInt8} {n:Nat} (h:b.length=n):loadS b 0 n=(beN b,true):=by
  have h1:¬ ((0:Int) < 0∨(b.length:Int) - n < 0):=by omega
  simp only [loadS,if_neg h1]
  simp [←h]
def toI (n:Nat):Int:=IntKind.i64.wrap n
def byteG (b:List UInt8):UInt8×Bool:=(b.headD 0,true)
def intG (b:List UInt8):Int×Bool:=(toI (beN b),true)
def flagG (b:List UInt8):Bool×Bool:=(b.headD 0 == 1,decide (b.headD 0≤1))
def lenG (b:List UInt8):Int×Bool:=(beN b,decide (beN b≤65536))
def bytesG (b:List UInt8):List UInt8×Bool:=(b,true)
def countG (m l:Int) (b:List UInt8):Int×Bool:=(toI (beN b),decide (0≤toI (beN b)) && decide (toI (beN b)≤m) && decide (toI (beN b)≤l))
theorem len1 {b:List UInt8} (h:b.length=1):∃ x,b=[x]:=by
  match b,h with
  | [x],_=>exact ⟨x,rfl⟩
theorem rbyte1_ac (b:List UInt8) (h:b.length=1):AC Tryz.prog 125 [bs none b] [] (fun v bs'=>v=.tu [U (byteG b).1,B (byteG b).2]∧bs'=[]):=by
  obtain ⟨x,rfl⟩:=len1 h
  refine AC.N Tryz.func125 Tryz.ntmps125 ?_
  intro X hρ hmks
  refine NX ?_
  repeat' (first|((first|((with_reducible apply AP.k_any);first|refine AP.S ?_|refine AP.E ?_))<;>(try refine NX ?_))|(refine AP.N0 ?_;try clear hQ' Q')|((with_reducible apply CP.k_reg);refine cp_regG fun Q' hQ'=>?_)|refine CP.W ?_|refine cp_cond rfl (fun hc=>?_) (fun hc=>?_)|(simp only [List.append_eq,List.cons_append,List.nil_append]))
  (refine RetQ.B [] ?_;(try dsimp only [resV,List.getD_cons_succ,List.getD_cons_zero]);(exact ⟨rfl,rfl⟩))
theorem rint1_ac (b:List UInt8) (h:b.length=8):AC Tryz.prog 147 [bs none b] [] (fun v bs'=>v=.tu [I (intG b).1,B (intG b).2]∧bs'=[]):=by
  have hl:=load64_ac b (by omega)
  rw [loadS_all h] at hl
  refine AC.N Tryz.func147 Tryz.ntmps147 ?_
  intro X hρ hmks
  refine NX ?_
  repeat' (first|((first|((with_reducible apply AP.k_any);first|refine AP.S ?_)|((with_reducible apply AP.k_any);refine AP.C (hl) ?_))<;>(try refine NX ?_))|(refine AP.N0 ?_;try clear hQ' Q')|((with_reducible apply CP.k_reg);refine cp_regG fun Q' hQ'=>?_)|refine CP.W ?_|refine cp_cond rfl (fun hc=>?_) (fun hc=>?_)|(simp only [List.append_eq,List.cons_append,List.nil_append]))
  (refine RetQ.B [] ?_;(try dsimp only [resV,List.getD_cons_succ,List.getD_cons_zero]);(exact ⟨rfl,rfl⟩))
theorem rflag1_ac (b:List UInt8) (h:b.length=1):AC Tryz.prog 221 [bs none b] [] (fun v bs'=>v=.tu [B (flagG b).1,B (flagG b).2]∧bs'=[]):=by
  obtain ⟨x,rfl⟩:=len1 h
  refine AC.N Tryz.func221 Tryz.ntmps221 ?_
  intro X hρ hmks
  refine NX ?_
  repeat' (first|((first|((with_reducible apply AP.k_any);first|refine AP.S ?_|refine AP.E ?_|(refine AP.V (fun c hnil=>?_);simp only [nz]))|((with_reducible apply AQ.k_any);first|refine AQ.S ?_|refine AQ.E ?_))<;>(try refine NX ?_))|(refine AP.N0 ?_;try clear hQ' Q')|((with_reducible apply AQ.k_nil);first|(refine AQ.nil (hQ' _ ?_);clear hQ' Q')|refine AQ.nil ?_)|((with_reducible apply CP.k_drw);refine cp_drw (by kernel_rfl) (by kernel_rfl) fun Q' hQ'=>?_)|((with_reducible apply CP.k_drw1);refine cp_draw (by kernel_rfl) (by kernel_rfl) ?_)|((with_reducible apply CP.k_reg);refine cp_regG fun Q' hQ'=>?_)|refine CP.W ?_|refine cp_cond rfl (fun hc=>?_) (fun hc=>?_)|(simp only [List.append_eq,List.cons_append,List.nil_append]))
  (refine RetQ.B [] ?_;(try dsimp only [resV,List.getD_cons_succ,List.getD_cons_zero]);((refine ⟨?_,rfl⟩;simp [flagG,UInt8.le_iff_toNat_le,beq_iff_eq];try (rw [Bool.eq_iff_iff];simp [←UInt8.toNat_inj];try omega))))
theorem rlen1_ac (b:List UInt8) (h:b.length=4):AC Tryz.prog 149 [bs none b] [] (fun v bs'=>v=.tu [I (lenG b).1,B (lenG b).2]∧bs'=[]):=by
  have hl:=ldw32_ac b (by omega)
  rw [loadS_all h] at hl
  have hb:=beN_lt b
  rw [h] at hb
  have hw:IntKind.i64.wrap (beN b:Int)=(beN b:Int):=wrap_i64 (by omega) (by omega)
  refine AC.N Tryz.func149 Tryz.ntmps149 ?_
  intro X hρ hmks
  refine NX ?_
  repeat' (first|((first|((with_reducible apply AP.k_any);first|refine AP.S ?_)|((with_reducible apply AP.k_any);refine AP.C (hl) ?_))<;>(try refine NX ?_))|(refine AP.N0 ?_;try clear hQ' Q')|((with_reducible apply CP.k_reg);refine cp_regG fun Q' hQ'=>?_)|refine CP.W ?_|refine cp_cond rfl (fun hc=>?_) (fun hc=>?_)|(simp only [List.append_eq,List.cons_append,List.nil_append]))
  simp only [hw]
  (refine RetQ.B [] ?_;(try dsimp only [resV,List.getD_cons_succ,List.getD_cons_zero]);((refine ⟨?_,rfl⟩;simp [lenG];try omega)))
theorem rbytes1_ac (b:List UInt8) (h:b.length≤100000000):AC Tryz.prog 152 [bs none b] [] (fun v bs'=>v=.tu [bs none (bytesG b).1,B (bytesG b).2]∧bs'=[]):=by
  have hcat:=(wcat_ac [b] (by simp) (by simp;omega)).ro (r2:=bs none b) (by simp [AV.ro,ro_B])
  refine AC.N Tryz.func152 Tryz.ntmps152 ?_
  intro X hρ hmks
  refine NX ?_
  repeat' (first|((first|((with_reducible apply AP.k_any);first|refine AP.Z ?_)|((with_reducible apply AP.k_any);refine AP.C (hcat) ?_)|((with_reducible apply AP.k_any);refine AP.gh (gh_fz (b:=0) (u:=1) rfl rfl (by (repeat' (first|exact FzC.nil|apply FzC.cons|exact FzV.hd|apply FzV.ag|exact FzV.same))) (by (repeat' (first|exact FzB.nil|apply FzB.c|apply FzB.same|exact FzC.nil|apply FzC.cons|exact FzV.hd|apply FzV.ag|exact FzV.same)))) ?_;first|simp only [roE,roC,AV.ro,ro_B,ro_M,ro_E]|simp only [roE,roC,AV.ro,ro_B]))<;>(try refine NX ?_))|(refine AP.N0 ?_;try clear hQ' Q')|((with_reducible apply CP.k_reg);refine cp_regG fun Q' hQ'=>?_)|refine CP.W ?_|refine cp_cond rfl (fun hc=>?_) (fun hc=>?_)|(simp only [List.append_eq,List.cons_append,List.nil_append]))
  (refine RetQ.B [] ?_;(try dsimp only [resV,List.getD_cons_succ,List.getD_cons_zero]);(exact ⟨rfl,rfl⟩))
theorem rcount1_ac (m l:Int) (b:List UInt8) (h:b.length=8):AC Tryz.prog 219 [bs none b,.bp 0 0 0,.bp 1 0 0] [iB m,iB l] (fun v bs'=>v=.tu [I (countG m l b).1,B (countG m l b).2]∧bs'=[iB m,iB l]):=by
  have hl:=load64_ac b (by omega)
  rw [loadS_all h] at hl
  refine AC.N Tryz.func219 Tryz.ntmps219 ?_
  intro X hρ hmks
  refine NX ?_
  repeat' (first|((first|((with_reducible apply AP.k_any);first|refine AP.S ?_|(refine AP.Y ?_;dsimp only)|refine AP.G (fun hg=>?_) (fun hg=>?_))|((with_reducible apply AP.k_any);refine AP.C (hl) ?_)|((with_reducible apply AQ.k_any);first|refine AQ.S ?_|(refine AQ.Y ?_;dsimp only)|refine AQ.G (fun hg=>?_) (fun hg=>?_)))<;>(try refine NX ?_))|(refine AP.N0 ?_;try clear hQ' Q')|((with_reducible apply AQ.k_nil);first|(refine AQ.nil (hQ' _ ?_);clear hQ' Q')|refine AQ.nil ?_)|((with_reducible apply CP.k_drw);refine cp_drw (by kernel_rfl) (by kernel_rfl) fun Q' hQ'=>?_)|((with_reducible apply CP.k_drw1);refine cp_draw (by kernel_rfl) (by kernel_rfl) ?_)|((with_reducible apply CP.k_reg);refine cp_regG fun Q' hQ'=>?_)|refine CP.W ?_|refine cp_cond rfl (fun hc=>?_) (fun hc=>?_)|(simp only [List.append_eq,List.cons_append,List.nil_append]))
  all_goals (refine RetQ.B [(0,0),(1,0)] ?_;(try dsimp only [resV,List.getD_cons_succ,List.getD_cons_zero]);((refine ⟨?_,rfl⟩;simp at *;simp [countG,toI, *];try (first|rfl|(intro h1;exfalso;have h2:=of_decide_eq_true h1;omega)))))
theorem takeS_len {α:Type} {z:α} {f:List UInt8→α×Bool} {n:Int} {st:Int×List UInt8} {k:Nat} (h:st.2.length≤k):(takeS z f n st).2.2.length≤k:=by
  unfold takeS
  split
  · exact h
  · split
    · simp
    · split
      · simp;omega
      · simp
def byteR (st:Int×List UInt8):UInt8×(Int×List UInt8):=takeS 0 byteG 1 st
def intR (st:Int×List UInt8):Int×(Int×List UInt8):=takeS 0 intG 8 st
def flagR (st:Int×List UInt8):Bool×(Int×List UInt8):=takeS false flagG 1 st
def lenR (st:Int×List UInt8):Int×(Int×List UInt8):=takeS 0 lenG 4 st
def bytesR (st:Int×List UInt8):List UInt8×(Int×List UInt8):=takeS [] bytesG (lenR st).1 (lenR st).2
def leftR (st:Int×List UInt8):Int:=if st.1=0 then st.2.length else 0
def countR (m:Int) (st:Int×List UInt8):Int×(Int×List UInt8):=takeS 0 (countG m (leftR st - 8)) 8 st
def endR (st:Int×List UInt8):Int:=if st.1=0 then (if st.2=[] then 0 else 40) else st.1
theorem rbyte_ac (st:Int×List UInt8) (hst:st.2.length≤100000000):AC Tryz.prog 81 [.bp 0 0 0] [rB st] (fun v bs'=>v=U (byteR st).1∧bs'=[rB (byteR st).2]):=by
  have h:=take1_ac 125 byteG 1 st hst (fun b hb _=>rbyte1_ac b hb)
  refine AC.N Tryz.func81 Tryz.ntmps81 ?_
  intro X hρ hmks
  refine NX ?_
  repeat' (first|((first|((with_reducible apply AP.k_any);first|refine AP.S ?_)|((with_reducible apply AP.k_any);refine AP.CB [(0,0)] 0 (h) ?_))<;>(try refine NX ?_))|(refine AP.N0 ?_;try clear hQ' Q')|((with_reducible apply CP.k_reg);refine cp_regG fun Q' hQ'=>?_)|refine CP.W ?_|refine cp_cond rfl (fun hc=>?_) (fun hc=>?_)|(simp only [List.append_eq,List.cons_append,List.nil_append]))
  (exact RetQ.A [(0,0)] (by exact ⟨rfl,rfl⟩))
theorem rint_ac (st:Int×List UInt8) (hst:st.2.length≤100000000):AC Tryz.prog 115 [.bp 0 0 0] [rB st] (fun v bs'=>v=I (intR st).1∧bs'=[rB (intR st).2]):=by
  have h:=take3_ac 147 intG 8 st hst (fun b hb _=>rint1_ac b hb)
  refine AC.N Tryz.func115 Tryz.ntmps115 ?_
  intro X hρ hmks
  refine NX ?_
  repeat' (first|((first|((with_reducible apply AP.k_any);first|refine AP.S ?_)|((with_reducible apply AP.k_any);refine AP.CB [(0,0)] 0 (h) ?_))<;>(try refine NX ?_))|(refine AP.N0 ?_;try clear hQ' Q')|((with_reducible apply CP.k_reg);refine cp_regG fun Q' hQ'=>?_)|refine CP.W ?_|refine cp_cond rfl (fun hc=>?_) (fun hc=>?_)|(simp only [List.append_eq,List.cons_append,List.nil_append]))
  (exact RetQ.A [(0,0)] (by exact ⟨rfl,rfl⟩))
theorem rflag_ac (st:Int×List UInt8) (hst:st.2.length≤100000000):AC Tryz.prog 211 [.bp 0 0 0] [rB st] (fun v bs'=>v=B (flagR st).1∧bs'=[rB (flagR st).2]):=by
  have h:=take2_ac 221 flagG 1 st hst (fun b hb _=>rflag1_ac b hb)
  refine AC.N Tryz.func211 Tryz.ntmps211 ?_
  intro X hρ hmks
  refine NX ?_
  repeat' (first|((first|((with_reducible apply AP.k_any);first|refine AP.S ?_)|((with_reducible apply AP.k_any);refine AP.CB [(0,0)] 0 (h) ?_))<;>(try refine NX ?_))|(refine AP.N0 ?_;try clear hQ' Q')|((with_reducible apply CP.k_reg);refine cp_regG fun Q' hQ'=>?_)|refine CP.W ?_|refine cp_cond rfl (fun hc=>?_) (fun hc=>?_)|(simp only [List.append_eq,List.cons_append,List.nil_append]))
  (exact RetQ.A [(0,0)] (by exact ⟨rfl,rfl⟩))
theorem rbytes_ac (st:Int×List UInt8) (hst:st.2.length≤100000000):AC Tryz.prog 116 [.bp 0 0 0] [rB st] (fun v bs'=>v=bs none (bytesR st).1∧bs'=[rB (bytesR st).2]):=by
  have h:=take3_ac 149 lenG 4 st hst (fun b hb _=>rlen1_ac b hb)
  have h2:=take4_ac 152 bytesG (lenR st).1 (lenR st).2 (takeS_len hst) (fun b _ hb=>rbytes1_ac b (Nat.le_trans hb (takeS_len hst)))
  refine AC.N Tryz.func116 Tryz.ntmps116 ?_
  intro X hρ hmks
  refine NX ?_
  repeat' (first|((first|((with_reducible apply AP.k_any);first|refine AP.S ?_)|((with_reducible apply AP.k_any);refine AP.CB [(0,0)] 0 (h) ?_)|((with_reducible apply AP.k_any);refine AP.CB [(0,0)] 0 (h2) ?_))<;>(try refine NX ?_))|(refine AP.N0 ?_;try clear hQ' Q')|((with_reducible apply CP.k_reg);refine cp_regG fun Q' hQ'=>?_)|refine CP.W ?_|refine cp_cond rfl (fun hc=>?_) (fun hc=>?_)|(simp only [List.append_eq,List.cons_append,List.nil_append]))
  (exact RetQ.A [(0,0)] (by exact ⟨rfl,rfl⟩))
theorem rleft_ac (st:Int×List UInt8):AC Tryz.prog 218 [.bp 0 0 0] [rB st] (fun v bs'=>v=I (leftR st)∧bs'=[rB st]):=by
  refine AC.N Tryz.func218 Tryz.ntmps218 ?_
  intro X hρ hmks
  refine NX ?_
  repeat' (first|((first|((with_reducible apply AP.k_any);first|refine AP.S ?_)|((with_reducible apply AP.k_any);refine AP.CB [(0,0)] 0 (fine_ac st) ?_))<;>(try refine NX ?_))|(refine AP.N0 ?_;try clear hQ' Q')|((with_reducible apply CP.k_reg);refine cp_regG fun Q' hQ'=>?_)|refine CP.W ?_|refine cp_cond rfl (fun hc=>?_) (fun hc=>?_)|(simp only [List.append_eq,List.cons_append,List.nil_append]))
  · (refine RetQ.B [(0,0)] ?_;(try dsimp only [resV,List.getD_cons_succ,List.getD_cons_zero]);((refine ⟨?_,rfl⟩;simp at *;simp [leftR, *])))
  · (refine RetQ.B [(0,0)] ?_;(try dsimp only [resV,List.getD_cons_succ,List.getD_cons_zero]);((refine ⟨?_,rfl⟩;simp at *;simp [leftR, *])))
theorem rcount_ac (m:Int) (st:Int×List UInt8) (hst:st.2.length≤100000000):AC Tryz.prog 205 [.bp 0 0 0,I m] [rB st] (fun v bs'=>v=I (countR m st).1∧bs'=[rB (countR m st).2]):=by
  have h:=take5_ac m (leftR st - 8) 219 (countG m (leftR st - 8)) 8 st hst (fun b hb _=>rcount1_ac m _ b hb)
  have hw:IntKind.i64.wrap (leftR st - 8)=leftR st - 8:=by
    have:0≤leftR st∧leftR st≤100000000:=by unfold leftR;split<;>omega
    exact wrap_i64 (by omega) (by omega)
  refine AC.N Tryz.func205 Tryz.ntmps205 ?_
  intro X hρ hmks
  refine NX ?_
  repeat' (first|((first|((with_reducible apply AP.k_any);first|refine AP.S ?_)|((with_reducible apply AP.k_any);refine AP.CB [(0,0)] 0 (rleft_ac st) ?_)|((with_reducible apply AP.k_any);simp only [hw];refine ap_callB 0 [(0,0),(1,1),(2,1)] rfl rfl (fn:=146) rfl (h) (by (repeat' (first|exact PasC.nil|apply PasC.nil|apply PasC.cons|apply PasV.leaf rfl|apply PasV.nl|apply PasV.bp rfl|apply PasV.vp rfl|apply PasV.pz|exact VsM.nil|apply VsM.cons rfl|apply PasV.lend rfl rfl rfl|apply PasV.lend rfl rfl (ro_B _)|apply PasV.lend rfl rfl (ro_M _)|apply PasV.lend rfl rfl (ro_E _ _)|apply PasV.lend rfl rfl (ro_I _)|apply PasV.lend rfl rfl (by (simp only [rn,List.map_cons,List.map_nil];first|done|rfl))|apply PasV.mv rfl|apply PasV.hk rfl|apply PasV.ag|apply PasV.fn|exact PasV.fs|apply PasV.any))) (by (repeat' (first|exact ClsC.nil|apply ClsC.nl|apply ClsC.leaf rfl|apply ClsC.hd rfl|apply ClsC.ob rfl|apply ClsC.mo rfl|apply ClsC.mp rfl|apply ClsC.hp rfl|exact Out.nil|apply Out.cons rfl|apply Out.r rfl|apply Out.f rfl|apply ClsC.fn|apply ClsC.fz rfl (ro_B _)|apply ClsC.fz rfl (ro_M _)|apply ClsC.fz rfl (ro_E _ _)|apply ClsC.fz rfl rfl))) rfl (by (repeat' (first|exact Bk.nil|apply Bk.cons rfl rfl rfl|apply Bk.r rfl))) (by (repeat' (first|exact RnV.leaf rfl|exact RnV.fs|exact RnC.nil|apply RnC.cons|apply RnV.ag|apply RnV.tu|apply RnV.fn|exact RnV.bp rfl))) rfl ?_))<;>(try refine NX ?_))|(refine AP.N0 ?_;try clear hQ' Q')|((with_reducible apply CP.k_reg);refine cp_regG fun Q' hQ'=>?_)|refine CP.W ?_|refine cp_cond rfl (fun hc=>?_) (fun hc=>?_)|(simp only [List.append_eq,List.cons_append,List.nil_append]))
  (exact RetQ.A [(0,0)] (by exact ⟨rfl,rfl⟩))
theorem rerr_ac (st:Int×List UInt8):AC Tryz.prog 127 [.bp 0 0 0] [rB st] (fun v bs'=>v=I st.1∧bs'=[rB st]):=by
  refine AC.N Tryz.func127 Tryz.ntmps127 ?_
  intro X hρ hmks
  refine NX ?_
  repeat' (first|((first|((with_reducible apply AP.k_any);first|refine AP.S ?_|(refine AP.Y ?_;dsimp only)|refine AP.G (fun hg=>?_) (fun hg=>?_)|(refine AP.V (fun c hnil=>?_);simp only [nz])))<;>(try refine NX ?_))|(refine AP.N0 ?_;try clear hQ' Q')|((with_reducible apply CP.k_reg);refine cp_regG fun Q' hQ'=>?_)|refine CP.W ?_|refine cp_cond rfl (fun hc=>?_) (fun hc=>?_)|(simp only [List.append_eq,List.cons_append,List.nil_append]))
  (exact RetQ.A [(0,0)] (by exact ⟨rfl,rfl⟩))
theorem rend_ac (st:Int×List UInt8):AC Tryz.prog 83 [.bp 0 0 0] [rB st] (fun v bs'=>v=I (endR st)∧bs'=[rB st]):=by
  refine AC.N Tryz.func83 Tryz.ntmps83 ?_
  intro X hρ hmks
  refine NX ?_
  repeat' (first|((first|((with_reducible apply AP.k_any);first|refine AP.S ?_|(refine AP.V (fun c hnil=>?_);simp only [nz]))|((with_reducible apply AP.k_any);refine AP.CB [(0,0)] 0 (rerr_ac st) ?_))<;>(try refine NX ?_))|(refine AP.N0 ?_;try clear hQ' Q')|((with_reducible apply CP.k_reg);refine cp_regG fun Q' hQ'=>?_)|refine CP.W ?_|refine cp_cond rfl (fun hc=>?_) (fun hc=>?_)|(simp only [List.append_eq,List.cons_append,List.nil_append]))
  all_goals (refine RetQ.B [(0,0)] ?_;(try dsimp only [resV,List.getD_cons_succ,List.getD_cons_zero]);((refine ⟨?_,rfl⟩;simp at *;simp [endR, *];try (intro h;simp [h] at *))))
end Go.Proofs.YtmgneincjfhaoaaGreat

namespace Go.Proofs.YtmgneincjfhaoaaGreat
set_option linter.unusedVariables false
set_option linter.unusedSimpArgs false
set_option maxHeartbeats 8000000
open Go.RowKit
set_option maxRecDepth 100000
/-- a reader of the document: bytes, how many are read, why it is bad -/
structure Rf where
  b:List UInt8
  at_:Nat
  bad:Int
/-- as the program's -/
def Rf.st (s:Rf):Int×List UInt8:=(s.bad,if s.bad=0 then s.b.drop s.at_ else [])
def Rf.ok (s:Rf):Prop:=s.at_≤s.b.length∧s.b.length≤100000000
end Go.Proofs.YtmgneincjfhaoaaGreat

namespace Go.Proofs.YtmgneincjfhaoaaGreat
set_option linter.unusedVariables false
set_option linter.unusedSimpArgs false
open Go.RowKit
set_option maxRecDepth 100000
def Rf.left (s:Rf):Nat:=s.b.length - s.at_
end Go.Proofs.YtmgneincjfhaoaaGreat

namespace Go.Proofs.YtmgneincjfhaoaaGreat
set_option linter.unusedVariables false
set_option linter.unusedSimpArgs false
set_option maxHeartbeats 8000000
open Go.RowKit
set_option maxRecDepth 100000
abbrev z32:List UInt8:=List.replicate 32 0
def tagG (b:List UInt8):List UInt8×Bool:=(b,true)
def tagR (st:Int×List UInt8):List UInt8×(Int×List UInt8):=takeS z32 tagG 32 st
theorem rtag1_ac (b:List UInt8) (h:b.length=32):AC Tryz.prog 154 [bs none b] [] (fun v bs'=>v=.tu [tg (tagG b).1,B (tagG b).2]∧bs'=[]):=by
  dsimp only [tagG]
  rw [ex32 h]
  refine AC.N Tryz.func154 Tryz.ntmps154 ?_
  intro X hρ hmks
  refine NX ?_
  repeat' (first|((first|((with_reducible apply AP.k_any);first|refine AP.S ?_|refine AP.E ?_|refine AP.T ?_|refine AP.A ?_|refine AP.AB 0 ?_|refine AP.AB 1 ?_|refine AP.AL ?_|refine AP.SA ?_))<;>(try refine NX ?_))|(refine AP.N0 ?_;try clear hQ' Q')|((with_reducible apply CP.k_reg);refine cp_regG fun Q' hQ'=>?_)|refine CP.W ?_|refine cp_cond rfl (fun hc=>?_) (fun hc=>?_)|(simp only [List.append_eq,List.cons_append,List.nil_append]))
  (exact RetQ.A [] (by exact ⟨rfl,rfl⟩))
theorem take6_ac (f:Nat) (g:List UInt8→List UInt8×Bool) (n:Int) (st:Int×List UInt8) (hst:st.2.length≤100000000) (hf:∀ b:List UInt8,b.length=n.toNat→b.length≤st.2.length→AC Tryz.prog f [bs none b] [] (fun v bs'=>v=.tu [tg (g b).1,B (g b).2]∧bs'=[])) :
    AC Tryz.prog 153 [.bp 0 0 0,I n,.fn f []] [rB st] (fun v bs'=>v=tg (takeS z32 g n st).1∧bs'=[rB (takeS z32 g n st).2]):=by
  obtain ⟨e,b⟩:=st
  by_cases he:e=0
  · subst he
    by_cases hn:n < 0∨(b.length:Int) < n
    · have ht:takeS z32 g n (0,b)=(z32,(40,[])):=by simp only [takeS,hn];simp
      rw [ht]
      refine AC.N Tryz.func153 Tryz.ntmps153 ?_
      intro X hρ hmks
      refine NX ?_
      repeat' (first|((first|((with_reducible apply AP.k_any);first|refine AP.S ?_|(refine AP.Y ?_;dsimp only)|refine AP.G (fun hg=>?_) (fun hg=>?_))|((with_reducible apply AP.k_any);refine AP.CB [(0,0)] 0 (fine_ac (0,b)) ?_)|((with_reducible apply AP.k_any);refine AP.CB [(0,0)] 0 (rbad_ac (0,b)) ?_))<;>(try refine NX ?_))|(refine AP.N0 ?_;try clear hQ' Q')|((with_reducible apply CP.k_reg);refine cp_regG fun Q' hQ'=>?_)|refine CP.W ?_|refine cp_cond rfl (fun hc=>?_) (fun hc=>?_)|(simp only [List.append_eq,List.cons_append,List.nil_append]))
      all_goals first
        | (exfalso;simp at *;done)
        | (exfalso;simp at *;omega)
        | (exact RetQ.A [(0,0)] (by exact ⟨rfl,rfl⟩))
    · have hl:(b.take n.toNat).length=n.toNat:=by simp;omega
      have hf':=hf (b.take n.toNat) hl (by rw [List.length_take];exact Nat.min_le_right _ _)
      have htk:List.take (b.length - n.toNat) (List.drop n.toNat b)=List.drop n.toNat b:=List.take_of_length_le (by simp)
      have hn0:0≤n:=by omega
      have hn1:n≤(b.length:Int):=by omega
      have hm:n≤((b.map eB).length:Int):=by simp;omega
      have ht:takeS z32 g n (0,b)=if (g (b.take n.toNat)).2=true then ((g (b.take n.toNat)).1,(0,b.drop n.toNat)) else (z32,(40,[])):=by simp only [takeS,hn];simp
      rw [ht]
      cases hg2:(g (b.take n.toNat)).2 with
      | true=>
        rw [hg2] at hf'
        simp only [if_true]
        refine AC.N Tryz.func153 Tryz.ntmps153 ?_
        intro X hρ hmks
        refine NX ?_
        repeat' (first|((first|((with_reducible apply AP.k_any);first|refine AP.S ?_|(refine AP.Y ?_;dsimp only)|refine AP.G (fun hg=>?_) (fun hg=>?_))|((with_reducible apply AP.k_any);refine AP.CB [(0,0)] 0 (fine_ac (0,b)) ?_)|((with_reducible apply AP.k_any);refine AP.C hf' ?_)|((with_reducible apply AP.k_any);refine AP.CB [(0,0)] 0 (rbad_ac (0,b)) ?_))<;>(try refine NX ?_))|(refine AP.N0 ?_;try clear hQ' Q')|((with_reducible apply CP.k_reg);refine cp_regG fun Q' hQ'=>?_)|refine CP.W ?_|refine cp_cond rfl (fun hc=>?_) (fun hc=>?_)|(simp only [List.append_eq,List.cons_append,List.nil_append]))
        all_goals first
          | (exfalso;simp at *;done)
          | (exfalso;simp at *;omega)
          | (simp only [htk]
             (exact RetQ.A [(0,0)] (by exact ⟨rfl,rfl⟩)))
      | false=>
        rw [hg2] at hf'
        simp only [Bool.false_eq_true,if_false]
        refine AC.N Tryz.func153 Tryz.ntmps153 ?_
        intro X hρ hmks
        refine NX ?_
        repeat' (first|((first|((with_reducible apply AP.k_any);first|refine AP.S ?_|(refine AP.Y ?_;dsimp only)|refine AP.G (fun hg=>?_) (fun hg=>?_))|((with_reducible apply AP.k_any);refine AP.CB [(0,0)] 0 (fine_ac (0,b)) ?_)|((with_reducible apply AP.k_any);refine AP.C hf' ?_)|((with_reducible apply AP.k_any);refine AP.CB [(0,0)] 0 (rbad_ac (0,b)) ?_))<;>(try refine NX ?_))|(refine AP.N0 ?_;try clear hQ' Q')|((with_reducible apply CP.k_reg);refine cp_regG fun Q' hQ'=>?_)|refine CP.W ?_|refine cp_cond rfl (fun hc=>?_) (fun hc=>?_)|(simp only [List.append_eq,List.cons_append,List.nil_append]))
        all_goals first
          | (exfalso;simp at *;done)
          | (exfalso;simp at *;omega)
          | (exact RetQ.A [(0,0)] (by exact ⟨rfl,rfl⟩))
  · have ht:takeS z32 g n (e,b)=(z32,(e,b)):=by simp [takeS,he]
    have hb:((e:Int) == 0)=false:=by simp [he]
    rw [ht]
    refine AC.N Tryz.func153 Tryz.ntmps153 ?_
    intro X hρ hmks
    refine NX ?_
    repeat' (first|((first|((with_reducible apply AP.k_any);first|refine AP.S ?_|(refine AP.Y ?_;dsimp only)|refine AP.G (fun hg=>?_) (fun hg=>?_))|((with_reducible apply AP.k_any);refine AP.CB [(0,0)] 0 (fine_ac (e,b)) ?_))<;>(try refine NX ?_))|(refine AP.N0 ?_;try clear hQ' Q')|((with_reducible apply CP.k_reg);refine cp_regG fun Q' hQ'=>?_)|refine CP.W ?_|refine cp_cond rfl (fun hc=>?_) (fun hc=>?_)|(simp only [List.append_eq,List.cons_append,List.nil_append]))
    all_goals first
      | (exfalso;simp at *;done)
      | (exfalso;simp at *;omega)
      | (exact RetQ.A [(0,0)] (by exact ⟨rfl,rfl⟩))
theorem rtag_ac (st:Int×List UInt8) (hst:st.2.length≤100000000):AC Tryz.prog 117 [.bp 0 0 0] [rB st] (fun v bs'=>v=tg (tagR st).1∧bs'=[rB (tagR st).2]):=by
  have h:=take6_ac 154 tagG 32 st hst (fun b hb _=>rtag1_ac b hb)
  refine AC.N Tryz.func117 Tryz.ntmps117 ?_
  intro X hρ hmks
  refine NX ?_
  repeat' (first|((first|((with_reducible apply AP.k_any);first|refine AP.S ?_|refine AP.A ?_|refine AP.AB 0 ?_|refine AP.AB 1 ?_|refine AP.AL ?_))<;>(try refine NX ?_))|(refine AP.N0 ?_;try clear hQ' Q')|((with_reducible apply CP.k_reg);refine cp_regG fun Q' hQ'=>?_)|refine CP.W ?_|refine cp_cond rfl (fun hc=>?_) (fun hc=>?_)|(simp only [List.append_eq,List.cons_append,List.nil_append]))
  (exact RetQ.A [(0,0)] (by exact ⟨rfl,rfl⟩))
end Go.Proofs.YtmgneincjfhaoaaGreat

namespace Go.Proofs.YtmgneincjfhaoaaGreat
set_option linter.unusedVariables false
set_option linter.unusedSimpArgs false
set_option maxHeartbeats 8000000
open Go.RowKit
set_option maxRecDepth 100000
def pk0:Pkt:=⟨0,0,0,0,0,[],z32⟩
abbrev Rw:=Int×List UInt8
def r1 (st:Rw):Rw:=(intR st).2
def r2 (st:Rw):Rw:=(intR (r1 st)).2
def r3 (st:Rw):Rw:=(intR (r2 st)).2
def r4 (st:Rw):Rw:=(intR (r3 st)).2
def r5 (st:Rw):Rw:=(intR (r4 st)).2
def r6 (st:Rw):Rw:=(bytesR (r5 st)).2
def r7 (st:Rw):Rw:=(tagR (r6 st)).2
def packR (st:Rw):Pkt:=⟨(intR st).1,(intR (r1 st)).1,(intR (r2 st)).1,(intR (r3 st)).1,(intR (r4 st)).1,(bytesR (r5 st)).1,(tagR (r6 st)).1⟩
def parseP (b:List UInt8):Pkt×Int:=if endR (r7 (newR b))=0∧mayP (packR (newR b))=true then (packR (newR b),0) else (pk0,190)
theorem newR_le' {b:List UInt8} {k:Nat} (h:b.length≤k):(newR b).2.length≤k:=by
  unfold newR
  split
  · simp
  · exact h
theorem int_le {st:Rw} {k:Nat} (h:st.2.length≤k):(intR st).2.2.length≤k:=takeS_len h
theorem bytes_le {st:Rw} {k:Nat} (h:st.2.length≤k):(bytesR st).2.2.length≤k:=takeS_len (takeS_len h)
theorem parseQ_ac (b:List UInt8) (s0 s1 s2 s3 s4 s5 s6 s7:Rw) (a1 a2 a3 a4 a5:Int) (a6 a7:List UInt8) (ee:Int) (mm:Bool) (R:Pkt×Int)
    (h0:AC Tryz.prog 80 [bs none b] [] (fun v bs'=>v=.bp 0 0 0∧bs'=[rB s0]))
    (i1:AC Tryz.prog 115 [.bp 0 0 0] [rB s0] (fun v bs'=>v=I a1∧bs'=[rB s1]))
    (i2:AC Tryz.prog 115 [.bp 0 0 0] [rB s1] (fun v bs'=>v=I a2∧bs'=[rB s2]))
    (i3:AC Tryz.prog 115 [.bp 0 0 0] [rB s2] (fun v bs'=>v=I a3∧bs'=[rB s3]))
    (i4:AC Tryz.prog 115 [.bp 0 0 0] [rB s3] (fun v bs'=>v=I a4∧bs'=[rB s4]))
    (i5:AC Tryz.prog 115 [.bp 0 0 0] [rB s4] (fun v bs'=>v=I a5∧bs'=[rB s5]))
    (i6:AC Tryz.prog 116 [.bp 0 0 0] [rB s5] (fun v bs'=>v=bs none a6∧bs'=[rB s6]))
    (i7:AC Tryz.prog 117 [.bp 0 0 0] [rB s6] (fun v bs'=>v=tg a7∧bs'=[rB s7]))
    (i8:AC Tryz.prog 83 [.bp 0 0 0] [rB s7] (fun v bs'=>v=I ee∧bs'=[rB s7]))
    (i9:AC Tryz.prog 118 [.ag (eP ⟨a1,a2,a3,a4,a5,a6,a7⟩)] [] (fun v bs'=>v=B mm∧bs'=[]))
    (hR:R=if ee=0∧mm=true then (⟨a1,a2,a3,a4,a5,a6,a7⟩,0) else (pk0,190)) :
    AC Tryz.prog 76 [bs none b] [] (fun v bs'=>v=.tu [.ag (eP R.1),I R.2]∧bs'=[]):=by
  by_cases hg:ee=0∧mm=true
  · rw [if_pos hg] at hR
    subst hR
    obtain ⟨rfl,rfl⟩:=hg
    refine AC.N Tryz.func76 Tryz.ntmps76 ?_
    intro X hρ hmks
    refine NX ?_
    refine CP.gh gh_slot ?_;refine NX ?_
    refine CP.gh gh_slot ?_;refine NX ?_
    refine CP.gh gh_slot ?_;refine NX ?_
    refine CP.gh gh_slot ?_;refine NX ?_
    repeat' (first|((first|((with_reducible apply AP.k_any);first|refine AP.S ?_|(refine AP.Y ?_;dsimp only)|refine AP.G (fun hg=>?_) (fun hg=>?_)|refine AP.A ?_|refine AP.AB 0 ?_|refine AP.AB 1 ?_|refine AP.AL ?_|((with_reducible apply AP.k_any);refine AP.B 0 (i1) ?_)|((with_reducible apply AP.k_any);refine AP.B 0 (i2) ?_)|((with_reducible apply AP.k_any);refine AP.B 0 (i3) ?_)|((with_reducible apply AP.k_any);refine AP.B 0 (i4) ?_)))<;>(try refine NX ?_))|(refine AP.N0 ?_;try clear hQ' Q')|((with_reducible apply CP.k_reg);refine cp_regG fun Q' hQ'=>?_)|refine CP.W ?_|refine cp_cond rfl (fun hc=>?_) (fun hc=>?_)|(simp only [List.append_eq,List.cons_append,List.nil_append]))
    all_goals first
      | (exact RetQ.A [] (by exact ⟨rfl,rfl⟩))
      | (exfalso;(repeat (rename AC _ _ _ _ _=>hzz;clear hzz));simp at *;done)
  · rw [if_neg hg] at hR
    subst hR
    refine AC.N Tryz.func76 Tryz.ntmps76 ?_
    intro X hρ hmks
    refine NX ?_
    refine CP.gh gh_slot ?_;refine NX ?_
    refine CP.gh gh_slot ?_;refine NX ?_
    refine CP.gh gh_slot ?_;refine NX ?_
    refine CP.gh gh_slot ?_;refine NX ?_
    repeat' (first|((first|((with_reducible apply AP.k_any);first|refine AP.S ?_|(refine AP.Y ?_;dsimp only)|refine AP.G (fun hg=>?_) (fun hg=>?_)|refine AP.A ?_|refine AP.AB 0 ?_|refine AP.AB 1 ?_|refine AP.AL ?_|((with_reducible apply AP.k_any);refine AP.B 0 (i1) ?_)|((with_reducible apply AP.k_any);refine AP.B 0 (i2) ?_)|((with_reducible apply AP.k_any);refine AP.B 0 (i3) ?_)|((with_reducible apply AP.k_any);refine AP.B 0 (i4) ?_)))<;>(try refine NX ?_))|(refine AP.N0 ?_;try clear hQ' Q')|((with_reducible apply CP.k_reg);refine cp_regG fun Q' hQ'=>?_)|refine CP.W ?_|refine cp_cond rfl (fun hc=>?_) (fun hc=>?_)|(simp only [List.append_eq,List.cons_append,List.nil_append]))
    all_goals first
      | (exact RetQ.A [] (by exact ⟨rfl,rfl⟩))
      | (exfalso;(repeat (rename AC _ _ _ _ _=>hzz;clear hzz));simp at *;simp_all;done)
theorem parseP_ac (b:List UInt8) (hb:b.length≤100000000):AC Tryz.prog 76 [bs none b] [] (fun v bs'=>v=.tu [.ag (eP (parseP b).1),I (parseP b).2]∧bs'=[]):=by
  have l0:=newR_le' hb
  have l1:(r1 (newR b)).2.length≤100000000:=int_le l0
  have l2:(r2 (newR b)).2.length≤100000000:=int_le l1
  have l3:(r3 (newR b)).2.length≤100000000:=int_le l2
  have l4:(r4 (newR b)).2.length≤100000000:=int_le l3
  have l5:(r5 (newR b)).2.length≤100000000:=int_le l4
  have l6:(r6 (newR b)).2.length≤100000000:=bytes_le l5
  exact parseQ_ac b _ _ _ _ _ _ _ _ _ _ _ _ _ _ _ _ _ _ (rnew_ac b hb) (rint_ac _ l0) (rint_ac _ l1) (rint_ac _ l2) (rint_ac _ l3) (rint_ac _ l4) (rbytes_ac _ l5) (rtag_ac _ l6) (rend_ac _) (mayP_ac _) rfl
end Go.Proofs.YtmgneincjfhaoaaGreat

namespace Go.Proofs.YtmgneincjfhaoaaGreat
set_option linter.unusedVariables false
set_option linter.unusedSimpArgs false
open Go.RowKit
set_option maxRecDepth 100000
theorem parseP_body (b:List UInt8) {k:Nat} (h:b.length≤k):(parseP b).1.body.length≤k:=by
  unfold parseP
  split
  · show (takeS ([]:List UInt8) bytesG _ _).1.length≤k
    have h5:(r5 (newR b)).2.length≤k:=int_le (int_le (int_le (int_le (int_le (newR_le' h)))))
    have h6:(lenR (r5 (newR b))).2.2.length≤k:=takeS_len h5
    unfold takeS
    split
    · simp
    · split
      · simp
      · simp only [bytesG,if_true,List.length_take];omega
  · simp [pk0]
theorem takeS_P {α:Type} (p:α→Prop) {z:α} {f:List UInt8→α×Bool} {n:Int} {st:Int×List UInt8} (hz:p z) (hf:∀ b,b.length=n.toNat→p (f b).1):p (takeS z f n st).1:=by
  unfold takeS
  split
  · exact hz
  · split
    · exact hz
    · rename_i h1 h2
      split
      · exact hf _ (by rw [List.length_take];omega)
      · exact hz
theorem toI_le (n:Nat):toI n≤9223372036854775807:=by
  unfold toI
  simp only [IntKind.wrap,IntKind.bits,IntKind.signed]
  simp
  split<;>omega
theorem intR_le (st:Rw):(intR st).1≤9223372036854775807:=takeS_P (fun n:Int=>n≤9223372036854775807) (by decide) fun b _=>toI_le _
theorem tagR_len (st:Rw):(tagR st).1.length=32:=takeS_P (fun l:List UInt8=>l.length=32) (by simp) fun b h=>by simpa [tagG] using h
theorem parseP_tag (b:List UInt8):(parseP b).1.tag.length=32:=by
  unfold parseP
  split
  · exact tagR_len _
  · simp [pk0]
theorem parseP_seqn (b:List UInt8):(parseP b).1.seqn≤9223372036854775807:=by
  unfold parseP
  split
  · exact intR_le _
  · simp [pk0]
end Go.Proofs.YtmgneincjfhaoaaGreat

namespace Go.Proofs.YtmgneincjfhaoaaGreat
set_option linter.unusedVariables false
set_option linter.unusedSimpArgs false
set_option maxHeartbeats 8000000
open Go.RowKit
set_option maxRecDepth 100000
def Ends.get (x:Ends) (b:List UInt8):(Pkt×Int)×Ends:=
  if (parseP b).2≠0∨(parseP b).1.to≠x.who then ((pk0,190),x)
  else if (parseP b).1.tag≠tagS x.root (parseP b).1 then ((pk0,91),x)
  else
    let p:=(parseP b).1
    let t:=(got (p.frm,p.epoch) x.wins Wn.new).take p.boot p.seqn
    let x':Ends:={ x with wins:=puts (p.frm,p.epoch) x.wins t.2 }
    if t.1≠0 then ((pk0,t.1),x') else ((p,0),x')
theorem pk0_eP:eP pk0=eP ⟨0,0,0,0,0,[],List.replicate 32 0⟩:=rfl
theorem parse_two (b:List UInt8):parseP b=(pk0,190)∨((parseP b).2=0∧mayP (parseP b).1=true):=by
  unfold parseP
  split
  · rename_i h;exact .inr ⟨rfl,h.2⟩
  · exact .inl rfl
theorem get_bad (x:Ends) (b:List UInt8) (hb:b.length≤100000000) (h:parseP b=(pk0,190)):AC Tryz.prog 45 [.bp 0 0 0,bs none b] [xE x] (fun v bs'=>v=.tu [.ag (eP (x.get b).1.1),I (x.get b).1.2]∧bs'=[xE (x.get b).2]):=by
  have e:x.get b=((pk0,190),x):=by
    unfold Ends.get
    rw [h,if_pos (.inl (by decide))]
  rw [e]
  have h1:=lnone_ac x
  have h2:=parseP_ac b hb
  rw [h] at h2
  dsimp only at h2 ⊢
  rw [pk0_eP,eP_z] at h2 ⊢
  refine AC.N Tryz.func45 Tryz.ntmps45 ?_
  intro X hρ hmks
  refine NX ?_
  repeat' (first|((first|((with_reducible apply AP.k_any);first|refine AP.ST ?_|(refine AP.Y ?_;dsimp only)|refine AP.G (fun hg=>?_) (fun hg=>?_)|(refine AP.V (fun c hnil=>?_);simp only [nz])|refine AP.PF ?_)|((with_reducible apply DW.k_any);first|refine DW.ST ?_|((fail_if_success refine DW.known rfl ?_);refine DW.G (fun hg=>?_) (fun hg=>?_))))<;>(try simp only [nq,Nat.reduceBEq,Nat.reduceAdd,Nat.reduceSub]))|refine CP.TL ?_|((with_reducible apply CP.k_drw);refine cp_drwX fun Q' hQ'=>?_)|((with_reducible apply CP.k_reg);refine cp_regG fun Q' hQ'=>?_)|((with_reducible apply CP.k_cond);refine cp_cond rfl (fun hc=>?_) (fun hc=>?_))|(simp only [List.append_eq,List.cons_append,List.nil_append]))
  (exact RetQ.A [(0,0)] (by exact ⟨rfl,rfl⟩))
theorem get_far (x:Ends) (b:List UInt8) (hb:b.length≤100000000) (h:(parseP b).2=0) (h3:(parseP b).1.to≠x.who):AC Tryz.prog 45 [.bp 0 0 0,bs none b] [xE x] (fun v bs'=>v=.tu [.ag (eP (x.get b).1.1),I (x.get b).1.2]∧bs'=[xE (x.get b).2]):=by
  have e:x.get b=((pk0,190),x):=by
    unfold Ends.get
    rw [if_pos (.inr h3)]
  rw [e]
  have h1:=lnone_ac x
  have h2:=parseP_ac b hb
  rw [h] at h2
  generalize (parseP b).1=p at *
  dsimp only at h2 ⊢
  rw [pk0_eP,eP_z]
  have d1:(p.to != x.who)=true:=by simpa using h3
  refine AC.N Tryz.func45 Tryz.ntmps45 ?_
  intro X hρ hmks
  refine NX ?_
  repeat' (first|((first|((with_reducible apply AP.k_any);first|refine AP.ST ?_|(refine AP.Y ?_;dsimp only)|refine AP.G (fun hg=>?_) (fun hg=>?_)|(refine AP.V (fun c hnil=>?_);simp only [nz])|refine AP.PF ?_)|((with_reducible apply DW.k_any);first|refine DW.ST ?_|((fail_if_success refine DW.known rfl ?_);refine DW.G (fun hg=>?_) (fun hg=>?_))))<;>(try simp only [d1,nq,Nat.reduceBEq,Nat.reduceAdd,Nat.reduceSub]))|refine CP.TL ?_|((with_reducible apply CP.k_drw);refine cp_drwX fun Q' hQ'=>?_)|((with_reducible apply CP.k_reg);refine cp_regG fun Q' hQ'=>?_)|((with_reducible apply CP.k_cond);refine cp_cond rfl (fun hc=>?_) (fun hc=>?_))|(simp only [List.append_eq,List.cons_append,List.nil_append]))
  (exact RetQ.A [(0,0)] (by exact ⟨rfl,rfl⟩))
theorem get_tag (x:Ends) (b:List UInt8) (hb:b.length≤60000) (hr:x.root.length≤10000) (h:(parseP b).2=0) (h3:(parseP b).1.to=x.who) (h4:(parseP b).1.tag≠tagS x.root (parseP b).1):AC Tryz.prog 45 [.bp 0 0 0,bs none b] [xE x] (fun v bs'=>v=.tu [.ag (eP (x.get b).1.1),I (x.get b).1.2]∧bs'=[xE (x.get b).2]):=by
  have e:x.get b=((pk0,91),x):=by
    unfold Ends.get
    rw [if_neg (by rw [h,h3];simp),if_pos h4]
  rw [e]
  have h1:=lnone_ac x
  have h2:=parseP_ac b (by omega)
  have hbl:=parseP_body b hb
  have htl:=parseP_tag b
  rw [h] at h2
  generalize (parseP b).1=p at *
  have h5:=right_ac x.root p hr hbl htl
  rw [decide_eq_false h4] at h5
  dsimp only at h2 ⊢
  rw [pk0_eP,eP_z]
  have d1:(p.to != x.who)=false:=by simpa using h3
  clear h4 e
  refine AC.N Tryz.func45 Tryz.ntmps45 ?_
  intro X hρ hmks
  refine NX ?_
  repeat' (first|((first|((with_reducible apply AP.k_any);first|refine AP.ST ?_|(refine AP.Y ?_;dsimp only)|refine AP.G (fun hg=>?_) (fun hg=>?_)|(refine AP.V (fun c hnil=>?_);simp only [nz])|refine AP.PF ?_)|((with_reducible apply DW.k_any);first|refine DW.ST ?_|((fail_if_success refine DW.known rfl ?_);refine DW.G (fun hg=>?_) (fun hg=>?_))))<;>(try simp only [d1,nq,Nat.reduceBEq,Nat.reduceAdd,Nat.reduceSub]))|refine CP.TL ?_|((with_reducible apply CP.k_drw);refine cp_drwX fun Q' hQ'=>?_)|((with_reducible apply CP.k_reg);refine cp_regG fun Q' hQ'=>?_)|((with_reducible apply CP.k_cond);refine cp_cond rfl (fun hc=>?_) (fun hc=>?_))|(simp only [List.append_eq,List.cons_append,List.nil_append]))
  (exact RetQ.A [(0,0)] (by exact ⟨rfl,rfl⟩))
end Go.Proofs.YtmgneincjfhaoaaGreat

namespace Go.Proofs.YtmgneincjfhaoaaGreat
set_option linter.unusedVariables false
set_option linter.unusedSimpArgs false
set_option maxHeartbeats 8000000
open Go.RowKit
set_option maxRecDepth 100000
theorem mayP_of {p:Pkt} (h:mayP p=true):1≤p.epoch∧0≤p.boot∧1≤p.seqn:=by
  simp only [mayP,Bool.and_eq_true,decide_eq_true_eq] at h
  exact ⟨h.1.1.2,h.1.2,h.2⟩
theorem take_two (w:Wn) (boot n:Int) (h0:0≤boot) (h1:1≤n):w.take boot n=(0,w.after boot n)∨w.take boot n=(180,w):=by
  unfold Wn.take
  rw [if_neg (by omega)]
  split
  · exact .inl rfl
  · exact .inr rfl
theorem get_go (x:Ends) (b:List UInt8) (h:(parseP b).2=0) (h3:(parseP b).1.to=x.who) (h4:(parseP b).1.tag=tagS x.root (parseP b).1) :
    x.get b=(let p:=(parseP b).1
    let t:=(got (p.frm,p.epoch) x.wins Wn.new).take p.boot p.seqn
    let x':Ends:={ x with wins:=puts (p.frm,p.epoch) x.wins t.2 }
    if t.1≠0 then ((pk0,t.1),x') else ((p,0),x')):=by
  unfold Ends.get
  rw [if_neg (by rw [h,h3];simp),if_neg (by rw [←h4];simp)]
theorem get_new (x:Ends) (b:List UInt8) (hb:b.length≤60000) (hr:x.root.length≤10000) (h:(parseP b).2=0) (h3:(parseP b).1.to=x.who) (h4:(parseP b).1.tag=tagS x.root (parseP b).1) (hm:mayP (parseP b).1=true)
    (ha:at_ ((parseP b).1.frm,(parseP b).1.epoch) x.wins=none):AC Tryz.prog 45 [.bp 0 0 0,bs none b] [xE x] (fun v bs'=>v=.tu [.ag (eP (x.get b).1.1),I (x.get b).1.2]∧bs'=[xE (x.get b).2]):=by
  rw [get_go x b h h3 h4]
  have h1:=lnone_ac x
  have h2:=parseP_ac b (by omega)
  have hbl:=parseP_body b hb
  have htl:=parseP_tag b
  have hsq:=parseP_seqn b
  rw [h] at h2
  generalize (parseP b).1=p at *
  have h5:=right_ac x.root p hr hbl htl
  rw [decide_eq_true h4] at h5
  obtain ⟨he,hbo,hs⟩:=mayP_of hm
  have hg:got (p.frm,p.epoch) x.wins Wn.new=Wn.new:=by unfold got;rw [ha]
  have hp:∀ w1,puts (p.frm,p.epoch) x.wins w1=x.wins ++ [((p.frm,p.epoch),w1)]:=fun w1=>by unfold puts;rw [ha]
  dsimp only
  rw [hg]
  have h6:=wnew18_ac
  have h7:=take18_ac Wn.new p.boot p.seqn hsq (by unfold Wn.ok Wn.new;decide)
  have hk:=kinS x.wins
  have hk1:∀ k∈keyW x.wins ++ [.agg #[.int .i64 p.frm,.int .i64 p.epoch]],isKey Tryz.prog tSd [.i .i64,.i .i64] k=true:=kin _ fun k hk=>by
    rcases List.mem_append.1 hk with hk|hk
    · obtain ⟨p,_,rfl⟩:=List.mem_map.1 hk;exact ⟨_,rfl⟩
    · simp at hk;exact ⟨(p.frm,p.epoch),hk⟩
  have hf:=fnd_at_ (p.frm,p.epoch) x.wins
  have hf1:fnd (kS (p.frm,p.epoch)) (keyW x.wins ++ [.agg #[.int .i64 p.frm,.int .i64 p.epoch]])=some x.wins.length:=by
    rw [fnd_app (by rw [hf,ha])]
    have:=kEq_kS (p.frm,p.epoch) (p.frm,p.epoch)
    rw [decide_eq_true rfl] at this
    simp [fnd,this]
  rw [ha] at hf
  have e1:∀ w1,xE { x with wins:=puts (p.frm,p.epoch) x.wins w1 }=.c tEn [B true,bs none x.root,I x.who,I x.boot,.mo (keyN x.sent) (rowN x.sent),.mo (keyW x.wins ++ [.agg #[.int .i64 p.frm,.int .i64 p.epoch]]) ((rowW x.wins ++ [[AV.de]]).set x.wins.length [.ob tWn (wC w1)])]:=fun w1=>by
    have e2:(rowW x.wins ++ [[AV.de]]).set x.wins.length [.ob tWn (wC w1)]=rowW x.wins ++ [[.ob tWn (wC w1)]]:=by
      rw [List.set_append_right _ _ (by simp)];simp
    rw [e2,hp]
    simp only [xE,enE,keyW,rowW,List.map_append,List.map_cons,List.map_nil]
  have d1:(p.to != x.who)=false:=by simpa using h3
  clear h4 hp
  rcases take_two Wn.new p.boot p.seqn hbo hs with ht|ht
  · rw [ht] at h7 ⊢
    dsimp only at h7 ⊢
    generalize Wn.new.after p.boot p.seqn=w1 at *
    rw [if_neg (by decide)]
    dsimp only
    rw [e1]
    clear e1
    generalize Wn.new=w0 at *
    refine AC.N Tryz.func45 Tryz.ntmps45 ?_
    intro X hρ hmks
    refine NX ?_
    refine CP.gh gh_slot ?_;refine NX ?_
    refine CP.gh gh_slot ?_;refine NX ?_
    refine CP.gh gh_slot ?_;refine NX ?_
    refine CP.gh gh_slot ?_;refine NX ?_
    refine CP.gh gh_slot ?_;refine NX ?_
    repeat' (first|((first|((with_reducible apply AP.k_any);first|refine AP.ST ?_|(refine AP.Y ?_;dsimp only)|refine AP.G (fun hg=>?_) (fun hg=>?_)|(refine AP.V (fun c hnil=>?_);simp only [nz])|((with_reducible apply AP.k_any);refine AP.B 1 (h6) ?_)|((with_reducible apply AP.k_any);refine AP.B 0 (h7) ?_)|refine AP.PF ?_)|((with_reducible apply DW.k_any);first|refine DW.ST ?_|((fail_if_success refine DW.known rfl ?_);refine DW.G (fun hg=>?_) (fun hg=>?_)))|((with_reducible apply DW.k_any);first|refine DW.R ?_|refine DW.R' ?_|refine DW.W ?_|refine DW.W' ?_|(refine DW.known rfl ?_;(with_reducible first|apply DW.sx 2|apply DW.sxN 2);(iterate 2 (focus (simp only [ft,nm,Nat.reduceAdd,Nat.reduceBEq,List.getElem?_cons_zero,List.getElem?_cons_succ];exact rfl)));(focus (intro X V;simp only [ft,nm,Nat.reduceAdd,Nat.reduceBEq];(try (refine AP.Y ?_;dsimp only));(first|((with_reducible apply AP.k_any);refine AP.B 1 (h6) ?_)|((with_reducible apply AP.k_any);refine AP.B 0 (h7) ?_)|fail);(try refine NX ?_);refine AP.nil ?_;(first|refine ⟨trivial,rfl,?_⟩|refine ⟨rfl,rfl,?_⟩);(repeat' (first|exact Mg.nil|apply Mg.keep rfl|apply Mg.take rfl));done));(focus (refine Exists.intro (fun _=>0) ?_;apply Exists.intro;(repeat' (first|exact Mg.nil|apply Mg.keep rfl|apply Mg.take rfl));done));(iterate 2 (focus (exact rfl))))|((fail_if_success refine DW.known rfl ?_);refine DW.G (fun hg=>?_) (fun hg=>?_))))<;>(try simp only [d1,nq,Nat.reduceBEq,Nat.reduceAdd,Nat.reduceSub]))|refine CP.TL ?_|((with_reducible apply CP.k_drw);refine cp_drwX fun Q' hQ'=>?_)|((with_reducible apply CP.k_reg);refine cp_regG fun Q' hQ'=>?_)|((with_reducible apply CP.k_cond);refine cp_cond rfl (fun hc=>?_) (fun hc=>?_))|(simp only [List.append_eq,List.cons_append,List.nil_append]))
    (exact RetQ.A [(0,0)] (by exact ⟨rfl,rfl⟩))
  · rw [ht] at h7 ⊢
    dsimp only at h7 ⊢
    rw [if_pos (by decide)]
    dsimp only
    rw [e1,pk0_eP,eP_z]
    clear e1
    generalize Wn.new=w0 at *
    refine AC.N Tryz.func45 Tryz.ntmps45 ?_
    intro X hρ hmks
    refine NX ?_
    refine CP.gh gh_slot ?_;refine NX ?_
    refine CP.gh gh_slot ?_;refine NX ?_
    refine CP.gh gh_slot ?_;refine NX ?_
    refine CP.gh gh_slot ?_;refine NX ?_
    refine CP.gh gh_slot ?_;refine NX ?_
    repeat' (first|((first|((with_reducible apply AP.k_any);first|refine AP.ST ?_|(refine AP.Y ?_;dsimp only)|refine AP.G (fun hg=>?_) (fun hg=>?_)|(refine AP.V (fun c hnil=>?_);simp only [nz])|((with_reducible apply AP.k_any);refine AP.B 1 (h6) ?_)|((with_reducible apply AP.k_any);refine AP.B 0 (h7) ?_)|refine AP.PF ?_)|((with_reducible apply DW.k_any);first|refine DW.ST ?_|((fail_if_success refine DW.known rfl ?_);refine DW.G (fun hg=>?_) (fun hg=>?_)))|((with_reducible apply DW.k_any);first|refine DW.R ?_|refine DW.R' ?_|refine DW.W ?_|refine DW.W' ?_|(refine DW.known rfl ?_;(with_reducible first|apply DW.sx 2|apply DW.sxN 2);(iterate 2 (focus (simp only [ft,nm,Nat.reduceAdd,Nat.reduceBEq,List.getElem?_cons_zero,List.getElem?_cons_succ];exact rfl)));(focus (intro X V;simp only [ft,nm,Nat.reduceAdd,Nat.reduceBEq];(try (refine AP.Y ?_;dsimp only));(first|((with_reducible apply AP.k_any);refine AP.B 1 (h6) ?_)|((with_reducible apply AP.k_any);refine AP.B 0 (h7) ?_)|fail);(try refine NX ?_);refine AP.nil ?_;(first|refine ⟨trivial,rfl,?_⟩|refine ⟨rfl,rfl,?_⟩);(repeat' (first|exact Mg.nil|apply Mg.keep rfl|apply Mg.take rfl));done));(focus (refine Exists.intro (fun _=>0) ?_;apply Exists.intro;(repeat' (first|exact Mg.nil|apply Mg.keep rfl|apply Mg.take rfl));done));(iterate 2 (focus (exact rfl))))|((fail_if_success refine DW.known rfl ?_);refine DW.G (fun hg=>?_) (fun hg=>?_))))<;>(try simp only [d1,nq,Nat.reduceBEq,Nat.reduceAdd,Nat.reduceSub]))|refine CP.TL ?_|((with_reducible apply CP.k_drw);refine cp_drwX fun Q' hQ'=>?_)|((with_reducible apply CP.k_reg);refine cp_regG fun Q' hQ'=>?_)|((with_reducible apply CP.k_cond);refine cp_cond rfl (fun hc=>?_) (fun hc=>?_))|(simp only [List.append_eq,List.cons_append,List.nil_append]))
    (exact RetQ.A [(0,0)] (by exact ⟨rfl,rfl⟩))
end Go.Proofs.YtmgneincjfhaoaaGreat

namespace Go.Proofs.YtmgneincjfhaoaaGreat
set_option linter.unusedVariables false
set_option linter.unusedSimpArgs false
set_option maxHeartbeats 8000000
open Go.RowKit
set_option maxRecDepth 100000
theorem get_old (x:Ends) (b:List UInt8) (hb:b.length≤60000) (hr:x.root.length≤10000) (hwo:∀ q∈x.wins,q.2.ok) (h:(parseP b).2=0) (h3:(parseP b).1.to=x.who) (h4:(parseP b).1.tag=tagS x.root (parseP b).1) (hm:mayP (parseP b).1=true)
    {n:Nat} (ha:at_ ((parseP b).1.frm,(parseP b).1.epoch) x.wins=some n):AC Tryz.prog 45 [.bp 0 0 0,bs none b] [xE x] (fun v bs'=>v=.tu [.ag (eP (x.get b).1.1),I (x.get b).1.2]∧bs'=[xE (x.get b).2]):=by
  rw [get_go x b h h3 h4]
  have h1:=lnone_ac x
  have h2:=parseP_ac b (by omega)
  have hbl:=parseP_body b hb
  have htl:=parseP_tag b
  have hsq:=parseP_seqn b
  rw [h] at h2
  generalize (parseP b).1=p at *
  have h5:=right_ac x.root p hr hbl htl
  rw [decide_eq_true h4] at h5
  obtain ⟨he,hbo,hs⟩:=mayP_of hm
  obtain ⟨w,hv⟩:=at_some ha
  have hg:got (p.frm,p.epoch) x.wins Wn.new=w:=by unfold got;rw [ha];dsimp only;rw [hv]
  have hp:∀ w1,puts (p.frm,p.epoch) x.wins w1=x.wins.set n ((p.frm,p.epoch),w1):=fun w1=>by unfold puts;rw [ha]
  dsimp only
  rw [hg]
  have h7:=take18_ac w p.boot p.seqn hsq (hwo _ (List.mem_of_getElem? hv))
  have hk:=kinS x.wins
  have hf:=fnd_at_ (p.frm,p.epoch) x.wins
  rw [ha] at hf
  have e1:∀ w1,xE { x with wins:=puts (p.frm,p.epoch) x.wins w1 }=.c tEn [B true,bs none x.root,I x.who,I x.boot,.mo (keyN x.sent) (rowN x.sent),.mo (keyW x.wins) ((rowW x.wins).set n [.ob tWn (wC w1)])]:=fun w1=>by
    rw [hp]
    have e2:=puts_keys ha w1
    have e3:(x.wins.set n ((p.frm,p.epoch),w1)).map (fun p:Sd×Wn=>[AV.ob tWn (wC p.2)])=(rowW x.wins).set n [.ob tWn (wC w1)]:=by rw [List.map_set]
    dsimp only [xE,enE,keyW,rowW]
    rw [e2,e3]
  have hc:(rowW x.wins)[n]? = some [.ob tWn (wC w)]:=by rw [List.getElem?_map,hv];rfl
  have d1:(p.to != x.who)=false:=by simpa using h3
  clear h4 hp
  rcases take_two w p.boot p.seqn hbo hs with ht|ht
  · rw [ht] at h7 ⊢
    dsimp only at h7 ⊢
    generalize w.after p.boot p.seqn=w1 at *
    rw [if_neg (by decide)]
    dsimp only
    rw [e1]
    clear e1
    refine AC.N Tryz.func45 Tryz.ntmps45 ?_
    intro X hρ hmks
    refine NX ?_
    refine CP.gh gh_slot ?_;refine NX ?_
    refine CP.gh gh_slot ?_;refine NX ?_
    refine CP.gh gh_slot ?_;refine NX ?_
    refine CP.gh gh_slot ?_;refine NX ?_
    repeat' (first|((first|((with_reducible apply AP.k_any);first|refine AP.ST ?_|(refine AP.Y ?_;dsimp only)|refine AP.G (fun hg=>?_) (fun hg=>?_)|(refine AP.V (fun c hnil=>?_);simp only [nz])|refine AP.PF ?_))<;>(try simp only [d1,nq,Nat.reduceBEq,Nat.reduceAdd,Nat.reduceSub]))|refine CP.TN ?_|((with_reducible apply CP.k_reg);refine cp_regG fun Q' hQ'=>?_)|((with_reducible apply CP.k_cond);refine cp_cond rfl (fun hc=>?_) (fun hc=>?_))|(simp only [List.append_eq,List.cons_append,List.nil_append]))
    first|refine cp_drwX fun Q' hQ'=>?_|refine cp_drawX ?_
    repeat' (first|((first|((with_reducible apply AP.k_any);first|refine AP.ST ?_|(refine AP.Y ?_;dsimp only)|refine AP.G (fun hg=>?_) (fun hg=>?_)|(refine AP.V (fun c hnil=>?_);simp only [nz])|refine AP.PF ?_)|((with_reducible apply DW.k_any);first|refine DW.ST ?_|((fail_if_success refine DW.known rfl ?_);refine DW.G (fun hg=>?_) (fun hg=>?_))))<;>(try simp only [d1,nq,Nat.reduceBEq,Nat.reduceAdd,Nat.reduceSub]))|refine CP.TN ?_|((with_reducible apply CP.k_reg);refine cp_regG fun Q' hQ'=>?_)|((with_reducible apply CP.k_cond);refine cp_cond rfl (fun hc=>?_) (fun hc=>?_))|(simp only [List.append_eq,List.cons_append,List.nil_append]))
    first|refine cp_drwX fun Q' hQ'=>?_|refine cp_drawX ?_
    repeat' (first|((first|((with_reducible apply AP.k_any);first|refine AP.ST ?_|(refine AP.Y ?_;dsimp only)|refine AP.G (fun hg=>?_) (fun hg=>?_)|(refine AP.V (fun c hnil=>?_);simp only [nz])|refine AP.PF ?_)|((with_reducible apply DW.k_any);first|refine DW.ST ?_|((fail_if_success refine DW.known rfl ?_);refine DW.G (fun hg=>?_) (fun hg=>?_))))<;>(try simp only [d1,nq,Nat.reduceBEq,Nat.reduceAdd,Nat.reduceSub]))|refine CP.TN ?_|((with_reducible apply CP.k_reg);refine cp_regG fun Q' hQ'=>?_)|((with_reducible apply CP.k_cond);refine cp_cond rfl (fun hc=>?_) (fun hc=>?_))|(simp only [List.append_eq,List.cons_append,List.nil_append]))
    refine CP.gh (gh_openM (j:=2) (n:=n) rfl hc rfl rfl) ?_
    refine NX ?_
    repeat' (first|((first|((with_reducible apply AP.k_any);first|refine AP.ST ?_|(refine AP.Y ?_;dsimp only)|refine AP.G (fun hg=>?_) (fun hg=>?_)|(refine AP.V (fun c hnil=>?_);simp only [nz])|((with_reducible apply AP.k_any);refine AP.B 0 (h7) ?_)|refine AP.PF ?_)|((with_reducible apply DW.k_any);first|refine DW.ST ?_|((fail_if_success refine DW.known rfl ?_);refine DW.G (fun hg=>?_) (fun hg=>?_)))|((with_reducible apply DW.k_any);first|refine DW.R ?_|refine DW.R' ?_|refine DW.W ?_|refine DW.W' ?_|(refine DW.known rfl ?_;(with_reducible first|apply DW.sx 2|apply DW.sxN 2);(iterate 2 (focus (simp only [ft,nm,Nat.reduceAdd,Nat.reduceBEq,List.getElem?_cons_zero,List.getElem?_cons_succ];exact rfl)));(focus (intro X V;simp only [ft,nm,Nat.reduceAdd,Nat.reduceBEq];(try (refine AP.Y ?_;dsimp only));(first|((with_reducible apply AP.k_any);refine AP.B 0 (h7) ?_)|fail);(try refine NX ?_);refine AP.nil ?_;(first|refine ⟨trivial,rfl,?_⟩|refine ⟨rfl,rfl,?_⟩);(repeat' (first|exact Mg.nil|apply Mg.keep rfl|apply Mg.take rfl));done));(focus (refine Exists.intro (fun _=>0) ?_;apply Exists.intro;(repeat' (first|exact Mg.nil|apply Mg.keep rfl|apply Mg.take rfl));done));(iterate 2 (focus (exact rfl))))|((fail_if_success refine DW.known rfl ?_);refine DW.G (fun hg=>?_) (fun hg=>?_))))<;>(try simp only [d1,nq,Nat.reduceBEq,Nat.reduceAdd,Nat.reduceSub]))|refine CP.TL ?_|((with_reducible apply CP.k_drw);refine cp_drwX fun Q' hQ'=>?_)|((with_reducible apply CP.k_reg);refine cp_regG fun Q' hQ'=>?_)|((with_reducible apply CP.k_cond);refine cp_cond rfl (fun hc=>?_) (fun hc=>?_))|(simp only [List.append_eq,List.cons_append,List.nil_append]))
    (exact RetQ.A [(0,0)] (by exact ⟨rfl,rfl⟩))
  · rw [ht] at h7 ⊢
    dsimp only at h7 ⊢
    rw [if_pos (by decide)]
    dsimp only
    rw [e1,pk0_eP,eP_z]
    clear e1
    refine AC.N Tryz.func45 Tryz.ntmps45 ?_
    intro X hρ hmks
    refine NX ?_
    refine CP.gh gh_slot ?_;refine NX ?_
    refine CP.gh gh_slot ?_;refine NX ?_
    refine CP.gh gh_slot ?_;refine NX ?_
    refine CP.gh gh_slot ?_;refine NX ?_
    repeat' (first|((first|((with_reducible apply AP.k_any);first|refine AP.ST ?_|(refine AP.Y ?_;dsimp only)|refine AP.G (fun hg=>?_) (fun hg=>?_)|(refine AP.V (fun c hnil=>?_);simp only [nz])|refine AP.PF ?_))<;>(try simp only [d1,nq,Nat.reduceBEq,Nat.reduceAdd,Nat.reduceSub]))|refine CP.TN ?_|((with_reducible apply CP.k_reg);refine cp_regG fun Q' hQ'=>?_)|((with_reducible apply CP.k_cond);refine cp_cond rfl (fun hc=>?_) (fun hc=>?_))|(simp only [List.append_eq,List.cons_append,List.nil_append]))
    first|refine cp_drwX fun Q' hQ'=>?_|refine cp_drawX ?_
    repeat' (first|((first|((with_reducible apply AP.k_any);first|refine AP.ST ?_|(refine AP.Y ?_;dsimp only)|refine AP.G (fun hg=>?_) (fun hg=>?_)|(refine AP.V (fun c hnil=>?_);simp only [nz])|refine AP.PF ?_)|((with_reducible apply DW.k_any);first|refine DW.ST ?_|((fail_if_success refine DW.known rfl ?_);refine DW.G (fun hg=>?_) (fun hg=>?_))))<;>(try simp only [d1,nq,Nat.reduceBEq,Nat.reduceAdd,Nat.reduceSub]))|refine CP.TN ?_|((with_reducible apply CP.k_reg);refine cp_regG fun Q' hQ'=>?_)|((with_reducible apply CP.k_cond);refine cp_cond rfl (fun hc=>?_) (fun hc=>?_))|(simp only [List.append_eq,List.cons_append,List.nil_append]))
    first|refine cp_drwX fun Q' hQ'=>?_|refine cp_drawX ?_
    repeat' (first|((first|((with_reducible apply AP.k_any);first|refine AP.ST ?_|(refine AP.Y ?_;dsimp only)|refine AP.G (fun hg=>?_) (fun hg=>?_)|(refine AP.V (fun c hnil=>?_);simp only [nz])|refine AP.PF ?_)|((with_reducible apply DW.k_any);first|refine DW.ST ?_|((fail_if_success refine DW.known rfl ?_);refine DW.G (fun hg=>?_) (fun hg=>?_))))<;>(try simp only [d1,nq,Nat.reduceBEq,Nat.reduceAdd,Nat.reduceSub]))|refine CP.TN ?_|((with_reducible apply CP.k_reg);refine cp_regG fun Q' hQ'=>?_)|((with_reducible apply CP.k_cond);refine cp_cond rfl (fun hc=>?_) (fun hc=>?_))|(simp only [List.append_eq,List.cons_append,List.nil_append]))
    refine CP.gh (gh_openM (j:=2) (n:=n) rfl hc rfl rfl) ?_
    refine NX ?_
    repeat' (first|((first|((with_reducible apply AP.k_any);first|refine AP.ST ?_|(refine AP.Y ?_;dsimp only)|refine AP.G (fun hg=>?_) (fun hg=>?_)|(refine AP.V (fun c hnil=>?_);simp only [nz])|((with_reducible apply AP.k_any);refine AP.B 0 (h7) ?_)|refine AP.PF ?_)|((with_reducible apply DW.k_any);first|refine DW.ST ?_|((fail_if_success refine DW.known rfl ?_);refine DW.G (fun hg=>?_) (fun hg=>?_)))|((with_reducible apply DW.k_any);first|refine DW.R ?_|refine DW.R' ?_|refine DW.W ?_|refine DW.W' ?_|(refine DW.known rfl ?_;(with_reducible first|apply DW.sx 2|apply DW.sxN 2);(iterate 2 (focus (simp only [ft,nm,Nat.reduceAdd,Nat.reduceBEq,List.getElem?_cons_zero,List.getElem?_cons_succ];exact rfl)));(focus (intro X V;simp only [ft,nm,Nat.reduceAdd,Nat.reduceBEq];(try (refine AP.Y ?_;dsimp only));(first|((with_reducible apply AP.k_any);refine AP.B 0 (h7) ?_)|fail);(try refine NX ?_);refine AP.nil ?_;(first|refine ⟨trivial,rfl,?_⟩|refine ⟨rfl,rfl,?_⟩);(repeat' (first|exact Mg.nil|apply Mg.keep rfl|apply Mg.take rfl));done));(focus (refine Exists.intro (fun _=>0) ?_;apply Exists.intro;(repeat' (first|exact Mg.nil|apply Mg.keep rfl|apply Mg.take rfl));done));(iterate 2 (focus (exact rfl))))|((fail_if_success refine DW.known rfl ?_);refine DW.G (fun hg=>?_) (fun hg=>?_))))<;>(try simp only [d1,nq,Nat.reduceBEq,Nat.reduceAdd,Nat.reduceSub]))|refine CP.TL ?_|((with_reducible apply CP.k_drw);refine cp_drwX fun Q' hQ'=>?_)|((with_reducible apply CP.k_reg);refine cp_regG fun Q' hQ'=>?_)|((with_reducible apply CP.k_cond);refine cp_cond rfl (fun hc=>?_) (fun hc=>?_))|(simp only [List.append_eq,List.cons_append,List.nil_append]))
    (exact RetQ.A [(0,0)] (by exact ⟨rfl,rfl⟩))
theorem get_ac (x:Ends) (b:List UInt8) (hb:b.length≤60000) (hr:x.root.length≤10000) (hwo:∀ q∈x.wins,q.2.ok):AC Tryz.prog 45 [.bp 0 0 0,bs none b] [xE x] (fun v bs'=>v=.tu [.ag (eP (x.get b).1.1),I (x.get b).1.2]∧bs'=[xE (x.get b).2]):=by
  rcases parse_two b with h|⟨h,hm⟩
  · exact get_bad x b (by omega) h
  · by_cases h3:(parseP b).1.to=x.who
    · by_cases h4:(parseP b).1.tag=tagS x.root (parseP b).1
      · cases ha:at_ ((parseP b).1.frm,(parseP b).1.epoch) x.wins with
        | none=>exact get_new x b hb hr h h3 h4 hm ha
        | some n=>exact get_old x b hb hr hwo h h3 h4 hm ha
      · exact get_tag x b hb hr h h3 h4
    · exact get_far x b (by omega) h h3
end Go.Proofs.YtmgneincjfhaoaaGreat

namespace Go.Proofs.YtmgneincjfhaoaaGreat
set_option linter.unusedVariables false
set_option linter.unusedSimpArgs false
/-- the document's window -/
structure Dw where
  boot:Int
  came:List Int
def dtop (l:List Int):Int:=l.foldl (fun t n=>if t < n then n else t) 0
def Dw.new:Dw:=⟨-1,[]⟩
def Dw.base (w:Dw) (boot:Int):Dw:=if w.boot < boot then ⟨boot,[]⟩ else w
def Dw.take (w:Dw) (boot n:Int):Int×Dw:=
  if boot < 0∨n < 1 then (2,w) else if boot < w.boot then (180,w) else
  if n≤dtop (w.base boot).came - 64 then (180,w.base boot) else if n∈(w.base boot).came then (180,w.base boot) else (0,⟨(w.base boot).boot,(w.base boot).came ++ [n]⟩)
theorem dtop_snoc (l:List Int) (n:Int):dtop (l ++ [n])=if dtop l < n then n else dtop l:=by
  unfold dtop;rw [List.foldl_append];rfl
theorem snoc_ind {α:Type} {P:List α→Prop} (h0:P []) (h1:∀ l n,P l→P (l ++ [n])) (l:List α):P l:=by
  have:∀ r:List α,P r.reverse:=fun r=>by
    induction r with
    | nil=>exact h0
    | cons n r ih=>rw [List.reverse_cons];exact h1 _ _ ih
  have:=this l.reverse
  rwa [List.reverse_reverse] at this
theorem dtop_nn (l:List Int):0≤dtop l:=by
  refine snoc_ind (P:=fun l=>0≤dtop l) (Int.le_refl _) (fun l n ih=>?_) l
  rw [dtop_snoc];split<;>omega
theorem dtop_ge (l:List Int):∀ n∈l,n≤dtop l:=by
  refine snoc_ind (P:=fun l=>∀ n∈l,n≤dtop l) (fun n hn=>by cases hn) (fun l m ih n hn=>?_) l
  rw [dtop_snoc]
  rcases List.mem_append.1 hn with h|h
  · have:=ih n h;split<;>omega
  · obtain rfl:=List.mem_singleton.1 h;split<;>omega
/-- the two windows know the same -/
def RW (p:Wn) (d:Dw):Prop:=p.boot=d.boot∧p.top=dtop d.came∧(∀ n∈d.came,1≤n)∧∀ n,1≤n→p.top - 64 < n→n≤p.top→(p.came (res64 n)=true↔n∈d.came)
theorem RW.new:RW Wn.new Dw.new:=⟨rfl,rfl,fun n h=>(by cases h),fun n h1 _ h3=>by (have:n≤0:=h3);omega⟩
theorem RW.base {p:Wn} {d:Dw} (h:RW p d) (boot:Int):RW (p.base boot) (d.base boot):=by
  unfold Wn.base Dw.base
  rw [h.1]
  split
  · exact ⟨rfl,rfl,fun n h=>(by cases h),fun n h1 _ h3=>by (have:n≤0:=h3);omega⟩
  · exact h
theorem RW.old {p:Wn} {d:Dw} (h:RW p d) {n:Int} (h1:1≤n):p.old n=(decide (n≤dtop d.came - 64) || decide (n∈d.came)):=by
  obtain ⟨_,h2,h3,h4⟩:=h
  unfold Wn.old
  rw [←h2]
  by_cases ha:n≤p.top - 64
  · rw [decide_eq_true ha];rfl
  · rw [decide_eq_false ha,Bool.false_or,Bool.false_or]
    by_cases hb:n≤p.top
    · rw [decide_eq_true hb,Bool.true_and,Bool.eq_iff_iff,h4 n h1 (by omega) hb,decide_eq_true_eq]
    · rw [decide_eq_false hb,Bool.false_and]
      exact (decide_eq_false fun hn=>hb (by rw [h2];exact dtop_ge _ n hn)).symm
theorem ups_at (w:Wn) (r:Nat):∀ k:Nat,(w.ups k).came r=true↔(w.came r=true∧∀ j:Int,w.top < j→j≤w.top + k→res64 j≠r)
  | 0=>⟨fun h=>⟨h,fun j h1 h2=>by omega⟩,fun h=>h.1⟩
  | k + 1=>by
    have ih:=ups_at w r k
    show upd (w.ups k).came (res64 ((w.ups k).top + 1)) false r=true↔_
    rw [Wn.ups_top]
    unfold upd
    by_cases hr:r=res64 (w.top + k + 1)
    · rw [if_pos hr]
      refine ⟨fun h=>(by cases h),fun ⟨_,h⟩=>absurd hr.symm (h _ (by omega) (by omega))⟩
    · rw [if_neg hr,ih]
      refine ⟨fun ⟨h1,h2⟩=>⟨h1,fun j h3 h4=>?_⟩,fun ⟨h1,h2⟩=>⟨h1,fun j h3 h4=>h2 j h3 (by omega)⟩⟩
      by_cases hj:j=w.top + k + 1
      · subst hj;exact Ne.symm hr
      · exact h2 j h3 (by omega)
theorem RW.go {p:Wn} {d:Dw} (h:RW p d) {n:Int} (h1:1≤n) (ho:p.old n=false):RW (p.go n) ⟨d.boot,d.came ++ [n]⟩:=by
  have hold:=ho
  rw [h.old h1,Bool.or_eq_false_iff,decide_eq_false_iff_not,decide_eq_false_iff_not] at hold
  obtain ⟨hf,hm⟩:=hold
  obtain ⟨h2,h3,h4,h5⟩:=h
  have ht:=dtop_nn d.came
  rw [←h3] at hf ht
  have hcame:∀ x:Wn,(x.mark n).came=upd x.came (res64 n) true:=fun x=>rfl
  by_cases hfar:p.top≤n - 64
  · have e:p.go n=(⟨p.boot,n,fun _=>false⟩:Wn).mark n:=by
      unfold Wn.go Wn.far
      rw [if_pos hfar]
      dsimp only
      rw [show (n - n).toNat=0 by omega];rfl
    rw [e]
    refine ⟨h2,?_,?_,?_⟩
    · show n=_
      rw [dtop_snoc,←h3,if_pos (by omega)]
    · intro m hm
      rcases List.mem_append.1 hm with hx|hx
      · exact h4 m hx
      · obtain rfl:=List.mem_singleton.1 hx;exact h1
    · intro m hm1 hm2 hm3
      change n - 64 < m at hm2
      change m≤n at hm3
      rw [hcame]
      unfold upd
      by_cases hmn:m=n
      · subst hmn;rw [if_pos rfl];simp
      · have hr:res64 m≠res64 n:=by unfold res64;omega
        rw [if_neg hr]
        refine ⟨fun h=>(by cases h),fun hx=>?_⟩
        rcases List.mem_append.1 hx with hx|hx
        · have:=dtop_ge _ m hx;omega
        · exact absurd (List.mem_singleton.1 hx) hmn
  · have e:p.go n=(p.ups (n - p.top).toNat).mark n:=by
      unfold Wn.go Wn.far
      rw [if_neg hfar]
    rw [e]
    have htop:((p.ups (n - p.top).toNat).mark n).top=p.top + ((n - p.top).toNat:Int):=Wn.ups_top _ _
    refine ⟨?_,?_,?_,?_⟩
    · show (p.ups _).boot=_
      rw [Wn.ups_boot];exact h2
    · rw [htop,dtop_snoc,←h3];split<;>omega
    · intro m hm
      rcases List.mem_append.1 hm with hx|hx
      · exact h4 m hx
      · obtain rfl:=List.mem_singleton.1 hx;exact h1
    · intro m hm1 hm2 hm3
      rw [htop] at hm2 hm3
      rw [hcame]
      unfold upd
      by_cases hmn:m=n
      · subst hmn;rw [if_pos rfl];simp
      · have hr:res64 m≠res64 n:=by unfold res64;omega
        rw [if_neg hr,ups_at]
        have hmem:(m∈d.came ++ [n])↔m∈d.came:=by simp [hmn]
        rw [hmem]
        by_cases hmt:m≤p.top
        · rw [←h5 m hm1 (by omega) hmt]
          refine ⟨fun hx=>hx.1,fun hx=>⟨hx,fun j h6 h7=>?_⟩⟩
          unfold res64;omega
        · refine ⟨fun hx=>absurd rfl (hx.2 m (by omega) (by omega)),fun hx=>?_⟩
          have:=dtop_ge _ m hx;omega
theorem RW.take {p:Wn} {d:Dw} (h:RW p d) (boot n:Int):(p.take boot n).1=(d.take boot n).1∧RW (p.take boot n).2 (d.take boot n).2:=by
  unfold Wn.take Dw.take
  by_cases hb:boot < 0∨n < 1
  · rw [if_pos hb,if_pos hb];exact ⟨rfl,h⟩
  · rw [if_neg hb,if_neg hb]
    unfold Wn.taken
    rw [h.1]
    by_cases hlt:boot < d.boot
    · rw [if_pos hlt,decide_eq_true hlt]
      exact ⟨rfl,h⟩
    · have hB:=h.base boot
      rw [if_neg hlt,decide_eq_false hlt,Bool.not_false,Bool.true_and,hB.old (by omega)]
      have hsame:(d.base boot).came≠[]→RW p (d.base boot):=fun hne=>by
        unfold Dw.base at *
        split
        · rename_i hx;rw [if_pos hx] at hne;exact absurd rfl hne
        · exact h
      have hafter:(p.base boot).old n=false→p.after boot n=(p.base boot).go n:=fun ho=>by
        unfold Wn.after
        rw [if_neg (by rw [h.1];omega),if_neg (by rw [ho];simp)]
      have hold:=hB.old (show 1≤n by omega)
      by_cases h1:n≤dtop (d.base boot).came - 64
      · rw [decide_eq_true h1,if_pos h1]
        refine ⟨rfl,hsame fun he=>?_⟩
        rw [he] at h1
        have:n≤0 - 64:=h1
        omega
      · rw [decide_eq_false h1,if_neg h1]
        by_cases h2:n∈(d.base boot).came
        · rw [decide_eq_true h2,if_pos h2]
          exact ⟨rfl,hsame fun he=>by rw [he] at h2;cases h2⟩
        · rw [decide_eq_false h2,if_neg h2]
          rw [decide_eq_false h1,decide_eq_false h2] at hold
          rw [if_pos (show (!(false || false))=true from rfl),hafter hold]
          exact ⟨rfl,hB.go (by omega) hold⟩
theorem at_cons {α:Type} (s:Sd) (q:Sd×α) (l:List (Sd×α)):at_ s (q :: l)=if s=q.1 then some 0 else (at_ s l).map (· + 1):=rfl
theorem got_cons {α:Type} (s:Sd) (q:Sd×α) (l:List (Sd×α)) (d:α):got s (q :: l) d=if s=q.1 then q.2 else got s l d:=by
  unfold got
  rw [at_cons]
  by_cases h:s=q.1
  · rw [if_pos h,if_pos h];rfl
  · rw [if_neg h,if_neg h]
    cases at_ s l<;>rfl
theorem puts_cons {α:Type} (s:Sd) (q:Sd×α) (l:List (Sd×α)) (v:α):puts s (q :: l) v=if s=q.1 then (s,v) :: l else q :: puts s l v:=by
  unfold puts
  rw [at_cons]
  by_cases h:s=q.1
  · rw [if_pos h,if_pos h];rfl
  · rw [if_neg h,if_neg h]
    cases at_ s l<;>rfl
theorem got_puts {α:Type} (s t:Sd) (v d:α):∀ l:List (Sd×α),got t (puts s l v) d=if t=s then v else got t l d
  | []=>by
    show got t [(s,v)] d=_
    rw [got_cons]
  | q :: l=>by
    have ih:=got_puts s t v d l
    rw [puts_cons]
    by_cases h:s=q.1
    · rw [if_pos h,got_cons,got_cons]
      dsimp only
      by_cases ht:t=s
      · rw [if_pos ht,if_pos ht]
      · rw [if_neg ht,if_neg ht,if_neg (by rw [←h];exact ht)]
    · rw [if_neg h,got_cons,got_cons,ih]
      by_cases ht:t=q.1
      · rw [if_pos ht,if_pos ht,if_neg (by rw [ht];exact Ne.symm h)]
      · rw [if_neg ht,if_neg ht]
/-- the document's ends -/
structure De where
  root:List UInt8
  who:Int
  boot:Int
  l:List (Sd×(Int×Dw))
abbrev De.at (y:De) (s:Sd):Int×Dw:=got s y.l (0,Dw.new)
def De.put (y:De) (s:Sd) (v:Int×Dw):De:={ y with l:=puts s y.l v }
def De.pkt (y:De) (to epoch:Int) (body:List UInt8):Pkt:=⟨y.who,to,epoch,y.boot,(y.at (to,epoch)).1 + 1,body,List.replicate 32 0⟩
def De.send (y:De) (to epoch:Int) (body:List UInt8):(List UInt8×Int)×De:=
  if mayP (y.pkt to epoch body)=true then ((headS (y.pkt to epoch body) ++ tagS y.root (y.pkt to epoch body),0),y.put (to,epoch) ((y.at (to,epoch)).1 + 1,(y.at (to,epoch)).2)) else (([],2),y.put (to,epoch) (y.at (to,epoch)))
def De.get (y:De) (b:List UInt8):(Pkt×Int)×De:=
  if (parseP b).2≠0∨(parseP b).1.to≠y.who then ((pk0,190),y)
  else if (parseP b).1.tag≠tagS y.root (parseP b).1 then ((pk0,91),y)
  else
    let p:=(parseP b).1
    let t:=(y.at (p.frm,p.epoch)).2.take p.boot p.seqn
    let y':De:=y.put (p.frm,p.epoch) ((y.at (p.frm,p.epoch)).1,t.2)
    if t.1≠0 then ((pk0,t.1),y') else ((p,0),y')
/-- the two ends know the same -/
structure Alk (x:Ends) (y:De):Prop where
  root:x.root=y.root
  who:x.who=y.who
  boot:x.boot=y.boot
  sent:∀ s,got s x.sent 0=(y.at s).1
  wins:∀ s,RW (got s x.wins Wn.new) (y.at s).2
theorem Alk.send {x:Ends} {y:De} (h:Alk x y) (to epoch:Int) (body:List UInt8):(x.send to epoch body).1=(y.send to epoch body).1∧Alk (x.send to epoch body).2 (y.send to epoch body).2:=by
  have hp:x.pkt to epoch body=y.pkt to epoch body:=by
    unfold Ends.pkt De.pkt
    rw [h.who,h.boot,h.sent]
  unfold Ends.send De.send
  rw [hp,h.root]
  split
  · refine ⟨rfl,⟨h.root,h.who,h.boot,fun s=>?_,fun s=>?_⟩⟩
    · show got s (puts (to,epoch) x.sent _) 0=(got s (puts (to,epoch) y.l _) _).1
      rw [got_puts,got_puts,h.sent]
      by_cases hs:s=(to,epoch)
      · rw [if_pos hs,if_pos hs]
      · rw [if_neg hs,if_neg hs];exact h.sent s
    · show RW (got s x.wins Wn.new) (got s (puts (to,epoch) y.l _) _).2
      rw [got_puts]
      by_cases hs:s=(to,epoch)
      · rw [if_pos hs,hs];exact h.wins _
      · rw [if_neg hs];exact h.wins s
  · refine ⟨rfl,⟨h.root,h.who,h.boot,fun s=>?_,fun s=>?_⟩⟩
    · show got s x.sent 0=(got s (puts (to,epoch) y.l _) _).1
      rw [got_puts]
      by_cases hs:s=(to,epoch)
      · rw [if_pos hs,hs];exact h.sent _
      · rw [if_neg hs];exact h.sent s
    · show RW (got s x.wins Wn.new) (got s (puts (to,epoch) y.l _) _).2
      rw [got_puts]
      by_cases hs:s=(to,epoch)
      · rw [if_pos hs,hs];exact h.wins _
      · rw [if_neg hs];exact h.wins s
theorem Alk.get {x:Ends} {y:De} (h:Alk x y) (b:List UInt8):(x.get b).1=(y.get b).1∧Alk (x.get b).2 (y.get b).2:=by
  unfold Ends.get De.get
  rw [h.who,h.root]
  split
  · exact ⟨rfl,h⟩
  split
  · exact ⟨rfl,h⟩
  dsimp only
  generalize (parseP b).1=p
  obtain ⟨h1,h2⟩:=(h.wins (p.frm,p.epoch)).take p.boot p.seqn
  have hR:Alk { x with wins:=puts (p.frm,p.epoch) x.wins ((got (p.frm,p.epoch) x.wins Wn.new).take p.boot p.seqn).2 } (y.put (p.frm,p.epoch) ((y.at (p.frm,p.epoch)).1,((y.at (p.frm,p.epoch)).2.take p.boot p.seqn).2)):=by
    refine ⟨h.root,h.who,h.boot,fun s=>?_,fun s=>?_⟩
    · show got s x.sent 0=(got s (puts (p.frm,p.epoch) y.l _) _).1
      rw [got_puts]
      by_cases hs:s=(p.frm,p.epoch)
      · rw [if_pos hs,hs];exact h.sent _
      · rw [if_neg hs];exact h.sent s
    · show RW (got s (puts (p.frm,p.epoch) x.wins _) Wn.new) (got s (puts (p.frm,p.epoch) y.l _) _).2
      rw [got_puts,got_puts]
      by_cases hs:s=(p.frm,p.epoch)
      · rw [if_pos hs,if_pos hs];exact h2
      · rw [if_neg hs,if_neg hs];exact h.wins s
  rw [h1]
  split
  · exact ⟨rfl,by rw [←h.root,←h.who];exact hR⟩
  · exact ⟨rfl,by rw [←h.root,←h.who];exact hR⟩
theorem Alk.new (root:List UInt8) (who boot:Int):Alk ⟨root,who,boot,[],[]⟩ ⟨root,who,boot,[]⟩:=⟨rfl,rfl,rfl,fun _=>rfl,fun _=>RW.new⟩
end Go.Proofs.YtmgneincjfhaoaaGreat

namespace Go.Proofs.YtmgneincjfhaoaaGreat
set_option linter.unusedVariables false
set_option linter.unusedSimpArgs false
set_option maxHeartbeats 8000000
open Go.RowKit
set_option maxRecDepth 100000
def clientS (who id:Int):Bool:=decide (0≤who) && decide (who < 4) && decide (1≤id)
def mayE (e:Entry):Bool:=decide (1≤e.pos) && decide (0≤e.stamp) && clientS e.client e.id && decide (e.body.length≤1024)
def allG (p:Nat→Member→Bool):Nat→List Member→Bool
  | _,[]=>true
  | k,m :: l=>p k m && allG p (k + 1) l
theorem client_ac (who id:Int):AC Tryz.prog 162 [I who,I id] [] (fun v bs=>v=B (clientS who id)∧bs=[]):=by
  refine AC.N Tryz.func162 Tryz.ntmps162 ?_
  intro X hρ hmks
  refine NX ?_
  repeat' (first|((first|((with_reducible apply AP.k_any);first|refine AP.S ?_|(refine AP.Y ?_;dsimp only)|refine AP.G (fun hg=>?_) (fun hg=>?_)))<;>(try refine NX ?_))|(refine AP.N0 ?_;try clear hQ' Q')|((with_reducible apply CP.k_reg);refine cp_regG fun Q' hQ'=>?_)|refine CP.W ?_|refine cp_cond rfl (fun hc=>?_) (fun hc=>?_)|(simp only [List.append_eq,List.cons_append,List.nil_append]))
  all_goals (refine RetQ.B [] ?_;(try dsimp only [resV,List.getD_cons_succ,List.getD_cons_zero]);((refine ⟨?_,rfl⟩;simp at *;simp [clientS];try omega)))
theorem mayEntry_ac (e:Entry):AC Tryz.prog 200 [.ag (eE none e)] [] (fun v bs=>v=B (mayE e)∧bs=[]):=by
  refine AC.N Tryz.func200 Tryz.ntmps200 ?_
  intro X hρ hmks
  refine NX ?_
  repeat' (first|((first|((with_reducible apply AP.k_any);first|refine AP.S ?_|(refine AP.Y ?_;dsimp only)|refine AP.G (fun hg=>?_) (fun hg=>?_))|((with_reducible apply AP.k_any);refine AP.C (client_ac _ _) ?_)|((with_reducible apply AQ.k_any);refine AQ.CQ (client_ac _ _) ?_))<;>(try refine NX ?_))|(refine AP.N0 ?_;try clear hQ' Q')|((with_reducible apply CP.k_reg);refine cp_regG fun Q' hQ'=>?_)|refine CP.W ?_|refine cp_cond rfl (fun hc=>?_) (fun hc=>?_)|(simp only [List.append_eq,List.cons_append,List.nil_append]))
  all_goals (refine RetQ.B [] ?_;(try dsimp only [resV,List.getD_cons_succ,List.getD_cons_zero]);((refine ⟨?_,rfl⟩;simp at *;simp [mayE, *];try omega)))
theorem all1_ac (f:Nat) (c:Config) (p:Nat→Member→Bool) (l:List Member) (hl:l.length≤100000000) (hf:∀ (i:Nat) (h:i < l.length),AC Tryz.prog f [I i,.ag (eM l[i]),.bp 0 0 0] [.c 48 (eC none c)] (fun v bs=>v=B (p i l[i])∧bs=[.c 48 (eC none c)])) :
    AC Tryz.prog 207 [ms none l,.fn f [.bp 0 0 0]] [.c 48 (eC none c)] (fun v bs=>v=B (allG p 0 l)∧bs=[.c 48 (eC none c)]):=by
  refine AC.N Tryz.func207 Tryz.ntmps207 ?_
  intro X hρ hmks
  refine NX ?_
  repeat' (first|((first|((with_reducible apply AP.k_any);first|refine AP.S ?_|refine AP.E ?_|refine AP.T ?_))<;>(try refine NX ?_))|(refine AP.N0 ?_;try clear hQ' Q')|((with_reducible apply CP.k_reg);refine cp_regG fun Q' hQ'=>?_)|refine CP.W ?_|refine cp_cond rfl (fun hc=>?_) (fun hc=>?_)|(simp only [List.append_eq,List.cons_append,List.nil_append]))
  refine CP.gh gh_slot ?_
  refine NX ?_
  refine cp_loopS [4,5,6,9,10,11,12,13,14,15,16,17,18,19] (fun a:Nat×Nat=>l.length - a.1) (fun a=>a.1≤l.length∧allG p 0 l=allG p a.1 (l.drop a.1)) (fun a=>[(9,I a.1)]) (fun a=>[(1,⟨a.2,.x⟩)]) (0,0) ⟨Nat.zero_le _,rfl⟩ (by exact Gh.W) ?_
  rintro ⟨k,u⟩ ⟨hk,he⟩
  simp only [setT,deT,setB,List.set_cons_succ,List.set_cons_zero]
  dsimp only at hk he
  by_cases hlt:k < l.length
  · have hw:IntKind.i64.wrap ((k:Int) + 1)=((k + 1:Nat):Int):=wrap_i64 (by omega) (by omega)
    rw [List.drop_eq_getElem_cons hlt,allG] at he
    repeat' (first|((first|((with_reducible apply AP.k_any);first|refine AP.S ?_|refine AP.E ?_|refine AP.T ?_)|((with_reducible apply AP.k_any);refine ap_callB 0 [(0,0)] rfl rfl (fn:=f) rfl (hf k hlt) (by (repeat' (first|exact PasC.nil|apply PasC.nil|apply PasC.cons|apply PasV.leaf rfl|apply PasV.nl|apply PasV.bp rfl|apply PasV.vp rfl|apply PasV.pz|exact VsM.nil|apply VsM.cons rfl|apply PasV.lend rfl rfl rfl|apply PasV.lend rfl rfl (ro_B _)|apply PasV.lend rfl rfl (ro_M _)|apply PasV.lend rfl rfl (ro_E _ _)|apply PasV.lend rfl rfl (ro_I _)|apply PasV.lend rfl rfl (by (simp only [rn,List.map_cons,List.map_nil];first|done|rfl))|apply PasV.mv rfl|apply PasV.hk rfl|apply PasV.ag|apply PasV.fn|exact PasV.fs|apply PasV.any))) (by (repeat' (first|exact ClsC.nil|apply ClsC.nl|apply ClsC.leaf rfl|apply ClsC.hd rfl|apply ClsC.ob rfl|apply ClsC.mo rfl|apply ClsC.mp rfl|apply ClsC.hp rfl|exact Out.nil|apply Out.cons rfl|apply Out.r rfl|apply Out.f rfl|apply ClsC.fn|apply ClsC.fz rfl (ro_B _)|apply ClsC.fz rfl (ro_M _)|apply ClsC.fz rfl (ro_E _ _)|apply ClsC.fz rfl rfl))) rfl (by (repeat' (first|exact Bk.nil|apply Bk.cons rfl rfl rfl|apply Bk.r rfl))) (by (repeat' (first|exact RnV.leaf rfl|exact RnV.fs|exact RnC.nil|apply RnC.cons|apply RnV.ag|apply RnV.tu|apply RnV.fn|exact RnV.bp rfl))) rfl ?_))<;>(try refine NX ?_))|(refine AP.N0 ?_;try clear hQ' Q')|((with_reducible apply CP.k_reg);refine cp_regG fun Q' hQ'=>?_)|refine CP.W ?_|refine cp_cond rfl (fun hc=>?_) (fun hc=>?_)|(simp only [List.append_eq,List.cons_append,List.nil_append]))
    · (refine RetQ.B [(0,0)] ?_;(try dsimp only [resV,List.getD_cons_succ,List.getD_cons_zero]);((have h:p k l[k]=false:=by simpa using hc);exact ⟨by rw [he,h,Bool.false_and],rfl⟩))
    · simp only [hw]
      exact ⟨(k + 1,u + 1),by (dsimp only;omega),⟨by (dsimp only;omega),by (have h:p k l[k]=true:=by simpa using hc);rw [he,h,Bool.true_and]⟩,by exact Gh.W⟩
    · exfalso;simp at *;omega
  · rw [List.drop_of_length_le (by omega),allG] at he
    repeat' (first|((first|((with_reducible apply AP.k_any);first|refine AP.S ?_|refine AP.E ?_|refine AP.T ?_))<;>(try refine NX ?_))|(refine AP.N0 ?_;try clear hQ' Q')|((with_reducible apply CP.k_reg);refine cp_regG fun Q' hQ'=>?_)|refine CP.W ?_|refine cp_cond rfl (fun hc=>?_) (fun hc=>?_)|(simp only [List.append_eq,List.cons_append,List.nil_append]))
    all_goals first
      | (exfalso;simp at *;done)
      | (exfalso;simp at *;omega)
      | (refine RetQ.B [(0,0)] ?_;(try dsimp only [resV,List.getD_cons_succ,List.getD_cons_zero]);(exact ⟨by rw [he],rfl⟩))
theorem all2_ac (f:Nat) (m:Member) (p:Nat→Member→Bool) (l:List Member) (hl:l.length≤100000000) (hf:∀ (i:Nat) (h:i < l.length),AC Tryz.prog f [I i,.ag (eM l[i]),.bp 0 0 0] [.c tM (eM m)] (fun v bs=>v=B (p i l[i])∧bs=[.c tM (eM m)])) :
    AC Tryz.prog 207 [ms none l,.fn f [.bp 0 0 0]] [.c tM (eM m)] (fun v bs=>v=B (allG p 0 l)∧bs=[.c tM (eM m)]):=by
  refine AC.N Tryz.func207 Tryz.ntmps207 ?_
  intro X hρ hmks
  refine NX ?_
  repeat' (first|((first|((with_reducible apply AP.k_any);first|refine AP.S ?_|refine AP.E ?_|refine AP.T ?_))<;>(try refine NX ?_))|(refine AP.N0 ?_;try clear hQ' Q')|((with_reducible apply CP.k_reg);refine cp_regG fun Q' hQ'=>?_)|refine CP.W ?_|refine cp_cond rfl (fun hc=>?_) (fun hc=>?_)|(simp only [List.append_eq,List.cons_append,List.nil_append]))
  refine CP.gh gh_slot ?_
  refine NX ?_
  refine cp_loopS [4,5,6,9,10,11,12,13,14,15,16,17,18,19] (fun a:Nat×Nat=>l.length - a.1) (fun a=>a.1≤l.length∧allG p 0 l=allG p a.1 (l.drop a.1)) (fun a=>[(9,I a.1)]) (fun a=>[(1,⟨a.2,.x⟩)]) (0,0) ⟨Nat.zero_le _,rfl⟩ (by exact Gh.W) ?_
  rintro ⟨k,u⟩ ⟨hk,he⟩
  simp only [setT,deT,setB,List.set_cons_succ,List.set_cons_zero]
  dsimp only at hk he
  by_cases hlt:k < l.length
  · have hw:IntKind.i64.wrap ((k:Int) + 1)=((k + 1:Nat):Int):=wrap_i64 (by omega) (by omega)
    rw [List.drop_eq_getElem_cons hlt,allG] at he
    repeat' (first|((first|((with_reducible apply AP.k_any);first|refine AP.S ?_|refine AP.E ?_|refine AP.T ?_)|((with_reducible apply AP.k_any);refine ap_callB 0 [(0,0)] rfl rfl (fn:=f) rfl (hf k hlt) (by (repeat' (first|exact PasC.nil|apply PasC.nil|apply PasC.cons|apply PasV.leaf rfl|apply PasV.nl|apply PasV.bp rfl|apply PasV.vp rfl|apply PasV.pz|exact VsM.nil|apply VsM.cons rfl|apply PasV.lend rfl rfl rfl|apply PasV.lend rfl rfl (ro_B _)|apply PasV.lend rfl rfl (ro_M _)|apply PasV.lend rfl rfl (ro_E _ _)|apply PasV.lend rfl rfl (ro_I _)|apply PasV.lend rfl rfl (by (simp only [rn,List.map_cons,List.map_nil];first|done|rfl))|apply PasV.mv rfl|apply PasV.hk rfl|apply PasV.ag|apply PasV.fn|exact PasV.fs|apply PasV.any))) (by (repeat' (first|exact ClsC.nil|apply ClsC.nl|apply ClsC.leaf rfl|apply ClsC.hd rfl|apply ClsC.ob rfl|apply ClsC.mo rfl|apply ClsC.mp rfl|apply ClsC.hp rfl|exact Out.nil|apply Out.cons rfl|apply Out.r rfl|apply Out.f rfl|apply ClsC.fn|apply ClsC.fz rfl (ro_B _)|apply ClsC.fz rfl (ro_M _)|apply ClsC.fz rfl (ro_E _ _)|apply ClsC.fz rfl rfl))) rfl (by (repeat' (first|exact Bk.nil|apply Bk.cons rfl rfl rfl|apply Bk.r rfl))) (by (repeat' (first|exact RnV.leaf rfl|exact RnV.fs|exact RnC.nil|apply RnC.cons|apply RnV.ag|apply RnV.tu|apply RnV.fn|exact RnV.bp rfl))) rfl ?_))<;>(try refine NX ?_))|(refine AP.N0 ?_;try clear hQ' Q')|((with_reducible apply CP.k_reg);refine cp_regG fun Q' hQ'=>?_)|refine CP.W ?_|refine cp_cond rfl (fun hc=>?_) (fun hc=>?_)|(simp only [List.append_eq,List.cons_append,List.nil_append]))
    · (refine RetQ.B [(0,0)] ?_;(try dsimp only [resV,List.getD_cons_succ,List.getD_cons_zero]);((have h:p k l[k]=false:=by simpa using hc);exact ⟨by rw [he,h,Bool.false_and],rfl⟩))
    · simp only [hw]
      exact ⟨(k + 1,u + 1),by (dsimp only;omega),⟨by (dsimp only;omega),by (have h:p k l[k]=true:=by simpa using hc);rw [he,h,Bool.true_and]⟩,by exact Gh.W⟩
    · exfalso;simp at *;omega
  · rw [List.drop_of_length_le (by omega),allG] at he
    repeat' (first|((first|((with_reducible apply AP.k_any);first|refine AP.S ?_|refine AP.E ?_|refine AP.T ?_))<;>(try refine NX ?_))|(refine AP.N0 ?_;try clear hQ' Q')|((with_reducible apply CP.k_reg);refine cp_regG fun Q' hQ'=>?_)|refine CP.W ?_|refine cp_cond rfl (fun hc=>?_) (fun hc=>?_)|(simp only [List.append_eq,List.cons_append,List.nil_append]))
    all_goals first
      | (exfalso;simp at *;done)
      | (exfalso;simp at *;omega)
      | (refine RetQ.B [(0,0)] ?_;(try dsimp only [resV,List.getD_cons_succ,List.getD_cons_zero]);(exact ⟨by rw [he],rfl⟩))
end Go.Proofs.YtmgneincjfhaoaaGreat

namespace Go.Proofs.YtmgneincjfhaoaaGreat
set_option linter.unusedVariables false
set_option linter.unusedSimpArgs false
set_option maxHeartbeats 8000000
open Go.RowKit
set_option maxRecDepth 100000
def pNode (n:Int):Nat→Member→Bool:=fun _ x=>x.node != n
def pMem (c:Config):Nat→Member→Bool:=fun i m=>decide (0≤m.node) && decide (m.node < 5) && decide (1≤m.since) && decide (m.since≤c.epoch) && allG (pNode m.node) 0 (c.members.take i)
def mayCfg (c:Config):Bool:=decide (1≤c.epoch) && decide (c.members.length≤5) && allG (pMem c) 0 c.members
theorem mc2_ac (i:Nat) (x m:Member):AC Tryz.prog 209 [I i,.ag (eM x),.bp 0 0 0] [.c tM (eM m)] (fun v bs=>v=B (pNode m.node i x)∧bs=[.c tM (eM m)]):=by
  refine AC.N Tryz.func209 Tryz.ntmps209 ?_
  intro X hρ hmks
  refine NX ?_
  repeat' (first|((first|((with_reducible apply AP.k_any);first|refine AP.S ?_))<;>(try refine NX ?_))|(refine AP.N0 ?_;try clear hQ' Q')|((with_reducible apply CP.k_reg);refine cp_regG fun Q' hQ'=>?_)|refine CP.W ?_|refine cp_cond rfl (fun hc=>?_) (fun hc=>?_)|(simp only [List.append_eq,List.cons_append,List.nil_append]))
  (refine RetQ.B [(0,0)] ?_;(try dsimp only [resV,List.getD_cons_succ,List.getD_cons_zero]);(exact ⟨rfl,rfl⟩))
theorem mc1_ac (c:Config) (i:Nat) (m:Member) (hi:i≤c.members.length) (hl:c.members.length≤100000000):AC Tryz.prog 208 [I i,.ag (eM m),.bp 0 0 0] [.c 48 (eC none c)] (fun v bs=>v=B (pMem c i m)∧bs=[.c 48 (eC none c)]):=by
  have h:=all2_ac 209 m (pNode m.node) (c.members.take i) (by simp;omega) (fun k hk=>mc2_ac k _ m)
  refine AC.N Tryz.func208 Tryz.ntmps208 ?_
  intro X hρ hmks
  refine NX ?_
  repeat' (first|((first|((with_reducible apply AP.k_any);first|refine AP.S ?_|(refine AP.Y ?_;dsimp only)|refine AP.G (fun hg=>?_) (fun hg=>?_))|((with_reducible apply AP.k_any);refine AP.CB [(1,1)] 0 (h) ?_))<;>(try refine NX ?_))|(refine AP.N0 ?_;try clear hQ' Q')|((with_reducible apply CP.k_reg);refine cp_regG fun Q' hQ'=>?_)|refine CP.W ?_|refine cp_cond rfl (fun hc=>?_) (fun hc=>?_)|(simp only [List.append_eq,List.cons_append,List.nil_append]))
  all_goals (refine RetQ.B [(0,0)] ?_;(try dsimp only [resV,List.getD_cons_succ,List.getD_cons_zero]);((refine ⟨?_,rfl⟩;simp at *;simp [pMem, *];try omega)))
theorem mayConfig_ac (c:Config) (hl:c.members.length≤100000000):AC Tryz.prog 174 [.ag (eC none c)] [] (fun v bs=>v=B (mayCfg c)∧bs=[]):=by
  have h:=all1_ac 208 c (pMem c) c.members hl (fun k hk=>mc1_ac c k _ (by omega) hl)
  refine AC.N Tryz.func174 Tryz.ntmps174 ?_
  intro X hρ hmks
  refine NX ?_
  repeat' (first|((first|((with_reducible apply AP.k_any);first|refine AP.S ?_|(refine AP.Y ?_;dsimp only)|refine AP.G (fun hg=>?_) (fun hg=>?_))|((with_reducible apply AP.k_any);refine AP.CB [(0,1)] 0 (h) ?_))<;>(try refine NX ?_))|(refine AP.N0 ?_;try clear hQ' Q')|((with_reducible apply CP.k_reg);refine cp_regG fun Q' hQ'=>?_)|refine CP.W ?_|refine cp_cond rfl (fun hc=>?_) (fun hc=>?_)|(simp only [List.append_eq,List.cons_append,List.nil_append]))
  all_goals (refine RetQ.B [] ?_;(try dsimp only [resV,List.getD_cons_succ,List.getD_cons_zero]);((refine ⟨?_,rfl⟩;simp at *;simp [mayCfg, *];try omega)))
def putR (st:Bool×List UInt8) (e:Entry):Bool×List UInt8:=addS (addS (addS (addS (addS st (intS e.stamp)) (intS e.client)) (intS e.id)) (putS e.body.length 4)) e.body
def putM (st:Bool×List UInt8) (m:Member):Bool×List UInt8:=addS (addS (addS st (intS m.node)) (intS m.since)) (flagS m.whole)
def putC (st:Bool×List UInt8) (c:Config):Bool×List UInt8:=c.members.foldl putM (addS (addS st (intS c.epoch)) (intS c.members.length))
theorem putRest_ac (st:Bool×List UInt8) (e:Entry) (hst:st.2.length≤65536) (hb:e.body.length≤100000000) :
    AC Tryz.prog 203 [.bp 0 0 0,.ag (eE none e)] [wB st] (fun v bs=>v=.bp 0 0 0∧bs=[wB (putR st e)]):=by
  have h1:=addS_len (st:=st) (b:=intS e.stamp) hst
  have h2:=addS_len (b:=intS e.client) h1
  have h3:=addS_len (b:=intS e.id) h2
  refine AC.N Tryz.func203 Tryz.ntmps203 ?_
  intro X hρ hmks
  refine NX ?_
  repeat' (first|((first|((with_reducible apply AP.k_any);first|refine AP.S ?_))<;>(try refine NX ?_))|(refine AP.N0 ?_;try clear hQ' Q')|((with_reducible apply CP.k_reg);refine cp_regG fun Q' hQ'=>?_)|refine CP.W ?_|refine cp_cond rfl (fun hc=>?_) (fun hc=>?_)|(simp only [List.append_eq,List.cons_append,List.nil_append]))
  refine cp_drawI (fun zs zb=>⟨setT zs.t [(5,cond (zb.getD 0 false) (.bp 0 0 0) (.tu [])),(6,cond (zb.getD 1 false) (.bp 2 1 1) (.tu [])),(7,cond (zb.getD 2 false) (I e.stamp) (.tu [])),(8,cond (zb.getD 3 false) (.bp 0 0 0) (.tu [])),(9,cond (zb.getD 4 false) (.bp 2 1 2) (.tu [])),(10,cond (zb.getD 5 false) (I e.client) (.tu [])),(11,cond (zb.getD 6 false) (.bp 0 0 0) (.tu [])),(12,cond (zb.getD 7 false) (.bp 2 1 3) (.tu [])),(13,cond (zb.getD 8 false) (I e.id) (.tu [])),(14,cond (zb.getD 9 false) (.bp 0 0 0) (.tu [])),(15,cond (zb.getD 10 false) (.bp 2 1 4) (.tu [])),(16,cond (zb.getD 11 false) (bs none e.body) (.tu [])),(17,cond (zb.getD 12 false) (.bp 0 0 0) (.tu [])),(4,cond (zb.getD 13 false) (.bp 0 0 0) (.sc (.pointer none)))],((zs.b.set 0 (cond (zb.getD 12 false) (⟨0,.c tW [B true,B (putR st e).1,.hd 1 5]⟩) (cond (zb.getD 9 false) (⟨0,.c tW [B true,B (addS (addS (addS st (intS e.stamp)) (intS e.client)) (intS e.id)).1,.hd 1 4]⟩) (cond (zb.getD 6 false) (⟨0,.c tW [B true,B (addS (addS st (intS e.stamp)) (intS e.client)).1,.hd 1 3]⟩) (cond (zb.getD 3 false) (⟨0,.c tW [B true,B (addS st (intS e.stamp)).1,.hd 1 2]⟩) (zs.b.getD 0 ⟨0,.x⟩)))))).set 1 (cond (zb.getD 12 false) (⟨5,.r tU 1 ((putR st e).2.map eB)⟩) (cond (zb.getD 9 false) (⟨4,.r tU 1 ((addS (addS (addS st (intS e.stamp)) (intS e.client)) (intS e.id)).2.map eB)⟩) (cond (zb.getD 6 false) (⟨3,.r tU 1 ((addS (addS st (intS e.stamp)) (intS e.client)).2.map eB)⟩) (cond (zb.getD 3 false) (⟨2,.r tU 1 ((addS st (intS e.stamp)).2.map eB)⟩) (zs.b.getD 1 ⟨0,.x⟩))))))⟩) (by kernel_rfl) (by kernel_rfl) (by kernel_rfl) ?_ ?_
  rotate_left
  simp only [cond_true,cond_false,setT,List.set_cons_succ,List.set_cons_zero,List.getD_cons_succ,List.getD_cons_zero,List.set_cons_succ,List.length_cons,List.length_nil,List.replicate_succ,List.replicate_zero,Nat.reduceAdd]
  rotate_left
  · intro b hb' hcl
    obtain ⟨l0,b0,rfl,hb0⟩:=len_cons hb'
    obtain ⟨l1,b1,rfl,hb1⟩:=len_cons hb0
    obtain ⟨l2,b2,rfl,hb2⟩:=len_cons hb1
    obtain ⟨l3,b3,rfl,hb3⟩:=len_cons hb2
    obtain ⟨l4,b4,rfl,hb4⟩:=len_cons hb3
    obtain ⟨l5,b5,rfl,hb5⟩:=len_cons hb4
    obtain ⟨l6,b6,rfl,hb6⟩:=len_cons hb5
    obtain ⟨l7,b7,rfl,hb7⟩:=len_cons hb6
    obtain ⟨l8,b8,rfl,hb8⟩:=len_cons hb7
    obtain ⟨l9,b9,rfl,hb9⟩:=len_cons hb8
    obtain ⟨l10,b10,rfl,hb10⟩:=len_cons hb9
    obtain ⟨l11,b11,rfl,hb11⟩:=len_cons hb10
    obtain ⟨l12,b12,rfl,hb12⟩:=len_cons hb11
    obtain ⟨l13,b13,rfl,hb13⟩:=len_cons hb12
    obtain rfl:=List.length_eq_zero_iff.1 hb13
    clear hb' hb0 hb1 hb2 hb3 hb4 hb5 hb6 hb7 hb8 hb9 hb10 hb11 hb12 hb13
    · simp only [closedB,depsOk,Region.binds,List.toList_toArray,List.all_cons,List.all_nil,List.getD_cons_succ,List.getD_cons_zero,Bool.not_true,Bool.not_false,Bool.true_or,Bool.false_or,Bool.and_true,Bool.true_and,Bool.or_true,Bool.and_false,Bool.or_false,Bool.false_and,Bool.and_eq_true,Bool.or_eq_true,Bool.not_eq_true'] at hcl
      simp only [StepsP]
      refine ⟨?_,?_,?_,?_,?_,?_,?_,?_,?_,?_,?_,?_,?_,?_,trivial⟩
      · intro h1 h2
        simp [depsOk,Region.binds] at h1 h2
        subst h1
        (repeat (obtain ⟨rfl,h2⟩:=h2))
        (try subst h2)
        clear hcl
        all_goals refine CD ?_
        all_goals ((with_reducible apply AP.k_any);first|(refine AP.sm false rfl ?_ ?_;focus (exact PF0))|fail "no step")
        all_goals (try refine NX ?_)
        all_goals refine AP.nil ?_
        all_goals exact ⟨rfl,rfl⟩
      · intro h1 h2
        simp [depsOk,Region.binds] at h1 h2
        subst h1
        (repeat (obtain ⟨rfl,h2⟩:=h2))
        (try subst h2)
        clear hcl
        all_goals refine CD ?_
        all_goals ((with_reducible apply AP.k_any);first|(refine AP.sm false rfl ?_ ?_;focus (exact PF0))|fail "no step")
        all_goals (try refine NX ?_)
        all_goals refine AP.nil ?_
        all_goals exact ⟨rfl,rfl⟩
      · intro h1 h2
        simp [depsOk,Region.binds] at h1 h2
        subst h1
        (repeat (obtain ⟨rfl,h2⟩:=h2))
        (try subst h2)
        (first|(obtain rfl:l3=false:=by grind only)|skip)
        (first|(obtain rfl:l6=false:=by grind only)|skip)
        (first|(obtain rfl:l9=false:=by grind only)|skip)
        (first|(obtain rfl:l12=false:=by grind only)|skip)
        clear hcl
        all_goals refine CD ?_
        all_goals ((with_reducible apply AP.k_any);first|(refine AP.sm false rfl ?_ ?_;focus (exact PF0))|(refine AP.el rfl ?_ (by (first|(refine ⟨?_,?_⟩;assumption;rfl)|exact ⟨mapAt (by (first|omega|(simp;omega)|(simp;done)|assumption)),rfl⟩|exact ⟨rfl,rfl⟩)) ?_;focus (exact PF0))|fail "no step")
        all_goals (try refine NX ?_)
        all_goals refine AP.nil ?_
        all_goals exact ⟨rfl,rfl⟩
      · intro h1 h2
        simp [depsOk,Region.binds] at h1 h2
        subst h1
        (repeat (obtain ⟨rfl,h2⟩:=h2))
        (try subst h2)
        (first|(obtain rfl:l6=false:=by grind only)|skip)
        (first|(obtain rfl:l9=false:=by grind only)|skip)
        (first|(obtain rfl:l12=false:=by grind only)|skip)
        clear hcl
        all_goals refine CD ?_
        (first
        | ((with_reducible apply AP.k_any);refine AP.CB [(0,0)] 0 (wint_ac st e.stamp hst) ?_)
        | ((with_reducible apply AP.k_any);refine AP.CB [(0,0)] 0 (wint_ac _ e.client h1) ?_)
        | ((with_reducible apply AP.k_any);refine AP.CB [(0,0)] 0 (wint_ac _ e.id h2) ?_)
        | ((with_reducible apply AP.k_any);refine AP.CB [(0,0)] 0 (wbytes_ac _ e.body h3 hb) ?_)
        | fail "no arm")
        all_goals (try refine NX ?_)
        all_goals refine AP.nil ?_
        all_goals exact ⟨rfl,rfl⟩
      · intro h1 h2
        simp [depsOk,Region.binds] at h1 h2
        subst h1
        (repeat (obtain ⟨rfl,h2⟩:=h2))
        (try subst h2)
        clear hcl
        all_goals refine CD ?_
        all_goals ((with_reducible apply AP.k_any);first|(refine AP.sm false rfl ?_ ?_;focus (exact PF0))|fail "no step")
        all_goals (try refine NX ?_)
        all_goals refine AP.nil ?_
        all_goals exact ⟨rfl,rfl⟩
      · intro h1 h2
        simp [depsOk,Region.binds] at h1 h2
        subst h1
        (repeat (obtain ⟨rfl,h2⟩:=h2))
        (try subst h2)
        (first|(obtain rfl:l6=false:=by grind only)|skip)
        (first|(obtain rfl:l9=false:=by grind only)|skip)
        (first|(obtain rfl:l12=false:=by grind only)|skip)
        clear hcl
        all_goals refine CD ?_
        all_goals ((with_reducible apply AP.k_any);first|(refine AP.sm false rfl ?_ ?_;focus (exact PF0))|(refine AP.el rfl ?_ (by (first|(refine ⟨?_,?_⟩;assumption;rfl)|exact ⟨mapAt (by (first|omega|(simp;omega)|(simp;done)|assumption)),rfl⟩|exact ⟨rfl,rfl⟩)) ?_;focus (exact PF0))|fail "no step")
        all_goals (try refine NX ?_)
        all_goals refine AP.nil ?_
        all_goals exact ⟨rfl,rfl⟩
      · intro h1 h2
        simp [depsOk,Region.binds] at h1 h2
        subst h1
        (repeat (obtain ⟨rfl,h2⟩:=h2))
        (try subst h2)
        (first|(obtain rfl:l3=true:=by grind only)|skip)
        (first|(obtain rfl:l9=false:=by grind only)|skip)
        (first|(obtain rfl:l12=false:=by grind only)|skip)
        clear hcl
        all_goals refine CD ?_
        (first
        | ((with_reducible apply AP.k_any);refine AP.CB [(0,0)] 0 (wint_ac st e.stamp hst) ?_)
        | ((with_reducible apply AP.k_any);refine AP.CB [(0,0)] 0 (wint_ac _ e.client h1) ?_)
        | ((with_reducible apply AP.k_any);refine AP.CB [(0,0)] 0 (wint_ac _ e.id h2) ?_)
        | ((with_reducible apply AP.k_any);refine AP.CB [(0,0)] 0 (wbytes_ac _ e.body h3 hb) ?_)
        | fail "no arm")
        all_goals (try refine NX ?_)
        all_goals refine AP.nil ?_
        all_goals exact ⟨rfl,rfl⟩
      · intro h1 h2
        simp [depsOk,Region.binds] at h1 h2
        subst h1
        (repeat (obtain ⟨rfl,h2⟩:=h2))
        (try subst h2)
        clear hcl
        all_goals refine CD ?_
        all_goals ((with_reducible apply AP.k_any);first|(refine AP.sm false rfl ?_ ?_;focus (exact PF0))|fail "no step")
        all_goals (try refine NX ?_)
        all_goals refine AP.nil ?_
        all_goals exact ⟨rfl,rfl⟩
      · intro h1 h2
        simp [depsOk,Region.binds] at h1 h2
        subst h1
        (repeat (obtain ⟨rfl,h2⟩:=h2))
        (try subst h2)
        (first|(obtain rfl:l9=false:=by grind only)|skip)
        (first|(obtain rfl:l12=false:=by grind only)|skip)
        clear hcl
        all_goals refine CD ?_
        all_goals ((with_reducible apply AP.k_any);first|(refine AP.sm false rfl ?_ ?_;focus (exact PF0))|(refine AP.el rfl ?_ (by (first|(refine ⟨?_,?_⟩;assumption;rfl)|exact ⟨mapAt (by (first|omega|(simp;omega)|(simp;done)|assumption)),rfl⟩|exact ⟨rfl,rfl⟩)) ?_;focus (exact PF0))|fail "no step")
        all_goals (try refine NX ?_)
        all_goals refine AP.nil ?_
        all_goals exact ⟨rfl,rfl⟩
      · intro h1 h2
        simp [depsOk,Region.binds] at h1 h2
        subst h1
        (repeat (obtain ⟨rfl,h2⟩:=h2))
        (try subst h2)
        (first|(obtain rfl:l3=true:=by grind only)|skip)
        (first|(obtain rfl:l6=true:=by grind only)|skip)
        (first|(obtain rfl:l12=false:=by grind only)|skip)
        clear hcl
        all_goals refine CD ?_
        (first
        | ((with_reducible apply AP.k_any);refine AP.CB [(0,0)] 0 (wint_ac st e.stamp hst) ?_)
        | ((with_reducible apply AP.k_any);refine AP.CB [(0,0)] 0 (wint_ac _ e.client h1) ?_)
        | ((with_reducible apply AP.k_any);refine AP.CB [(0,0)] 0 (wint_ac _ e.id h2) ?_)
        | ((with_reducible apply AP.k_any);refine AP.CB [(0,0)] 0 (wbytes_ac _ e.body h3 hb) ?_)
        | fail "no arm")
        all_goals (try refine NX ?_)
        all_goals refine AP.nil ?_
        all_goals exact ⟨rfl,rfl⟩
      · intro h1 h2
        simp [depsOk,Region.binds] at h1 h2
        subst h1
        (repeat (obtain ⟨rfl,h2⟩:=h2))
        (try subst h2)
        clear hcl
        all_goals refine CD ?_
        all_goals ((with_reducible apply AP.k_any);first|(refine AP.sm false rfl ?_ ?_;focus (exact PF0))|fail "no step")
        all_goals (try refine NX ?_)
        all_goals refine AP.nil ?_
        all_goals exact ⟨rfl,rfl⟩
      · intro h1 h2
        simp [depsOk,Region.binds] at h1 h2
        subst h1
        (repeat (obtain ⟨rfl,h2⟩:=h2))
        (try subst h2)
        (first|(obtain rfl:l12=false:=by grind only)|skip)
        clear hcl
        all_goals refine CD ?_
        all_goals ((with_reducible apply AP.k_any);first|(refine AP.sm false rfl ?_ ?_;focus (exact PF0))|(refine AP.el rfl ?_ (by (first|(refine ⟨?_,?_⟩;assumption;rfl)|exact ⟨mapAt (by (first|omega|(simp;omega)|(simp;done)|assumption)),rfl⟩|exact ⟨rfl,rfl⟩)) ?_;focus (exact PF0))|fail "no step")
        all_goals (try refine NX ?_)
        all_goals refine AP.nil ?_
        all_goals exact ⟨rfl,rfl⟩
      · intro h1 h2
        simp [depsOk,Region.binds] at h1 h2
        subst h1
        (repeat (obtain ⟨rfl,h2⟩:=h2))
        (try subst h2)
        (first|(obtain rfl:l3=true:=by grind only)|skip)
        (first|(obtain rfl:l6=true:=by grind only)|skip)
        (first|(obtain rfl:l9=true:=by grind only)|skip)
        clear hcl
        all_goals refine CD ?_
        (first
        | ((with_reducible apply AP.k_any);refine AP.CB [(0,0)] 0 (wint_ac st e.stamp hst) ?_)
        | ((with_reducible apply AP.k_any);refine AP.CB [(0,0)] 0 (wint_ac _ e.client h1) ?_)
        | ((with_reducible apply AP.k_any);refine AP.CB [(0,0)] 0 (wint_ac _ e.id h2) ?_)
        | ((with_reducible apply AP.k_any);refine AP.CB [(0,0)] 0 (wbytes_ac _ e.body h3 hb) ?_)
        | fail "no arm")
        all_goals (try refine NX ?_)
        all_goals refine AP.nil ?_
        all_goals exact ⟨rfl,rfl⟩
      · intro h1 h2
        simp [depsOk,Region.binds] at h1 h2
        subst h1
        (repeat (obtain ⟨rfl,h2⟩:=h2))
        (try subst h2)
        clear hcl
        all_goals refine CD ?_
        all_goals ((with_reducible apply AP.k_any);first|(refine AP.sm false rfl ?_ ?_;focus (exact PF0))|fail "no step")
        all_goals (try refine NX ?_)
        all_goals refine AP.nil ?_
        all_goals exact ⟨rfl,rfl⟩
  repeat' (first|((first|((with_reducible apply AP.k_any);first|refine AP.S ?_))<;>(try refine NX ?_))|(refine AP.N0 ?_;try clear hQ' Q')|((with_reducible apply CP.k_reg);refine cp_regG fun Q' hQ'=>?_)|refine CP.W ?_|refine cp_cond rfl (fun hc=>?_) (fun hc=>?_)|(simp only [List.append_eq,List.cons_append,List.nil_append]))
  (exact RetQ.A [(0,0)] (by exact ⟨rfl,rfl⟩))
end Go.Proofs.YtmgneincjfhaoaaGreat

namespace Go.Proofs.YtmgneincjfhaoaaGreat
set_option linter.unusedVariables false
set_option linter.unusedSimpArgs false
set_option maxHeartbeats 8000000
open Go.RowKit
set_option maxRecDepth 100000
/-! of each kind: whether it may be; without its fields -/
def mayAsk (m:Msg):Bool:=clientS m.client m.id && decide (m.body.length≤20000)
def mayHave (m:Msg):Bool:=decide (0≤m.done) && decide (m.done≤m.have_)
def mayWhole (m:Msg):Bool:=decide (1≤m.since)
def bareAsk (m:Msg):Msg:={ m with client:=0,id:=0,body:=[] }
def bareHave (m:Msg):Msg:={ m with have_:=0,done:=0 }
def bareCfg (m:Msg):Msg:={ m with cfg:=cfg0 }
def bareWhole (m:Msg):Msg:={ m with since:=0 }
def bareEnt (m:Msg):Msg:={ m with upto:=0,frm:=0,entries:=[] }
theorem kmay1_ac (m:Msg):AC Tryz.prog 161 [.ag (eG m)] [] (fun v bs=>v=B (mayAsk m)∧bs=[]):=by
  refine AC.N Tryz.func161 Tryz.ntmps161 ?_
  intro X hρ hmks
  refine NX ?_
  repeat' (first|((first|((with_reducible apply AP.k_any);first|refine AP.S ?_|(refine AP.Y ?_;dsimp only)|refine AP.G (fun hg=>?_) (fun hg=>?_))|((with_reducible apply AP.k_any);refine AP.C (client_ac _ _) ?_))<;>(try refine NX ?_))|(refine AP.N0 ?_;try clear hQ' Q')|((with_reducible apply CP.k_reg);refine cp_regG fun Q' hQ'=>?_)|refine CP.W ?_|refine cp_cond rfl (fun hc=>?_) (fun hc=>?_)|(simp only [List.append_eq,List.cons_append,List.nil_append]))
  all_goals (refine RetQ.B [] ?_;(try dsimp only [resV,List.getD_cons_succ,List.getD_cons_zero]);((refine ⟨?_,rfl⟩;simp at *;simp [mayAsk, *];try omega)))
theorem kmay5_ac (m:Msg):AC Tryz.prog 169 [.ag (eG m)] [] (fun v bs=>v=B (mayHave m)∧bs=[]):=by
  refine AC.N Tryz.func169 Tryz.ntmps169 ?_
  intro X hρ hmks
  refine NX ?_
  repeat' (first|((first|((with_reducible apply AP.k_any);first|refine AP.S ?_|(refine AP.Y ?_;dsimp only)|refine AP.G (fun hg=>?_) (fun hg=>?_)))<;>(try refine NX ?_))|(refine AP.N0 ?_;try clear hQ' Q')|((with_reducible apply CP.k_reg);refine cp_regG fun Q' hQ'=>?_)|refine CP.W ?_|refine cp_cond rfl (fun hc=>?_) (fun hc=>?_)|(simp only [List.append_eq,List.cons_append,List.nil_append]))
  all_goals (refine RetQ.B [] ?_;(try dsimp only [resV,List.getD_cons_succ,List.getD_cons_zero]);((refine ⟨?_,rfl⟩;simp at *;simp [mayHave, *];try omega)))
theorem kmay9_ac (m:Msg) (hl:m.cfg.members.length≤100000000):AC Tryz.prog 173 [.ag (eG m)] [] (fun v bs=>v=B (mayCfg m.cfg)∧bs=[]):=by
  refine AC.N Tryz.func173 Tryz.ntmps173 ?_
  intro X hρ hmks
  refine NX ?_
  repeat' (first|((first|((with_reducible apply AP.k_any);first|refine AP.S ?_)|((with_reducible apply AP.k_any);refine AP.C (mayConfig_ac m.cfg hl) ?_))<;>(try refine NX ?_))|(refine AP.N0 ?_;try clear hQ' Q')|((with_reducible apply CP.k_reg);refine cp_regG fun Q' hQ'=>?_)|refine CP.W ?_|refine cp_cond rfl (fun hc=>?_) (fun hc=>?_)|(simp only [List.append_eq,List.cons_append,List.nil_append]))
  all_goals (refine RetQ.B [] ?_;(try dsimp only [resV,List.getD_cons_succ,List.getD_cons_zero]);(exact ⟨rfl,rfl⟩))
theorem kmay13_ac (m:Msg):AC Tryz.prog 180 [.ag (eG m)] [] (fun v bs=>v=B (mayWhole m)∧bs=[]):=by
  refine AC.N Tryz.func180 Tryz.ntmps180 ?_
  intro X hρ hmks
  refine NX ?_
  repeat' (first|((first|((with_reducible apply AP.k_any);first|refine AP.S ?_))<;>(try refine NX ?_))|(refine AP.N0 ?_;try clear hQ' Q')|((with_reducible apply CP.k_reg);refine cp_regG fun Q' hQ'=>?_)|refine CP.W ?_|refine cp_cond rfl (fun hc=>?_) (fun hc=>?_)|(simp only [List.append_eq,List.cons_append,List.nil_append]))
  all_goals (refine RetQ.B [] ?_;(try dsimp only [resV,List.getD_cons_succ,List.getD_cons_zero]);((refine ⟨?_,rfl⟩;simp at *;simp [mayWhole, *];try omega)))
theorem kbare2_ac (m:Msg):AC Tryz.prog 163 [.ag (eG m)] [] (fun v bs=>v=.ag (eG (bareAsk m))∧bs=[]):=by
  refine AC.N Tryz.func163 Tryz.ntmps163 ?_
  intro X hρ hmks
  refine NX ?_
  repeat' (first|((first|((with_reducible apply AP.k_any);first|refine AP.S ?_))<;>(try refine NX ?_))|(refine AP.N0 ?_;try clear hQ' Q')|((with_reducible apply CP.k_reg);refine cp_regG fun Q' hQ'=>?_)|refine CP.W ?_|refine cp_cond rfl (fun hc=>?_) (fun hc=>?_)|(simp only [List.append_eq,List.cons_append,List.nil_append]))
  (exact RetQ.A [] (by exact ⟨rfl,rfl⟩))
theorem kbare6_ac (m:Msg):AC Tryz.prog 170 [.ag (eG m)] [] (fun v bs=>v=.ag (eG (bareHave m))∧bs=[]):=by
  refine AC.N Tryz.func170 Tryz.ntmps170 ?_
  intro X hρ hmks
  refine NX ?_
  repeat' (first|((first|((with_reducible apply AP.k_any);first|refine AP.S ?_))<;>(try refine NX ?_))|(refine AP.N0 ?_;try clear hQ' Q')|((with_reducible apply CP.k_reg);refine cp_regG fun Q' hQ'=>?_)|refine CP.W ?_|refine cp_cond rfl (fun hc=>?_) (fun hc=>?_)|(simp only [List.append_eq,List.cons_append,List.nil_append]))
  (exact RetQ.A [] (by exact ⟨rfl,rfl⟩))
theorem kbare10_ac (m:Msg):AC Tryz.prog 175 [.ag (eG m)] [] (fun v bs=>v=.ag (eG (bareCfg m))∧bs=[]):=by
  refine AC.N Tryz.func175 Tryz.ntmps175 ?_
  intro X hρ hmks
  refine NX ?_
  repeat' (first|((first|((with_reducible apply AP.k_any);first|refine AP.S ?_))<;>(try refine NX ?_))|(refine AP.N0 ?_;try clear hQ' Q')|((with_reducible apply CP.k_reg);refine cp_regG fun Q' hQ'=>?_)|refine CP.W ?_|refine cp_cond rfl (fun hc=>?_) (fun hc=>?_)|(simp only [List.append_eq,List.cons_append,List.nil_append]))
  (exact RetQ.A [] (by exact ⟨rfl,rfl⟩))
theorem kbare14_ac (m:Msg):AC Tryz.prog 181 [.ag (eG m)] [] (fun v bs=>v=.ag (eG (bareWhole m))∧bs=[]):=by
  refine AC.N Tryz.func181 Tryz.ntmps181 ?_
  intro X hρ hmks
  refine NX ?_
  repeat' (first|((first|((with_reducible apply AP.k_any);first|refine AP.S ?_))<;>(try refine NX ?_))|(refine AP.N0 ?_;try clear hQ' Q')|((with_reducible apply CP.k_reg);refine cp_regG fun Q' hQ'=>?_)|refine CP.W ?_|refine cp_cond rfl (fun hc=>?_) (fun hc=>?_)|(simp only [List.append_eq,List.cons_append,List.nil_append]))
  (exact RetQ.A [] (by exact ⟨rfl,rfl⟩))
theorem ebare2_ac (m:Msg):AC Tryz.prog 201 [.ag (eG m)] [] (fun v bs=>v=.ag (eG (bareEnt m))∧bs=[]):=by
  refine AC.N Tryz.func201 Tryz.ntmps201 ?_
  intro X hρ hmks
  refine NX ?_
  repeat' (first|((first|((with_reducible apply AP.k_any);first|refine AP.S ?_))<;>(try refine NX ?_))|(refine AP.N0 ?_;try clear hQ' Q')|((with_reducible apply CP.k_reg);refine cp_regG fun Q' hQ'=>?_)|refine CP.W ?_|refine cp_cond rfl (fun hc=>?_) (fun hc=>?_)|(simp only [List.append_eq,List.cons_append,List.nil_append]))
  (exact RetQ.A [] (by exact ⟨rfl,rfl⟩))
def noneM (m:Msg):Bool:=m.client == 0 && m.id == 0 && m.body.isEmpty && m.upto == 0 && m.frm == 0 && m.entries.isEmpty && m.have_ == 0 && m.done == 0 && m.cfg.epoch == 0 && m.cfg.members.isEmpty && m.since == 0
theorem none_ac (m:Msg):AC Tryz.prog 128 [.ag (eG m)] [] (fun v bs=>v=B (noneM m)∧bs=[]):=by
  refine AC.N Tryz.func128 Tryz.ntmps128 ?_
  intro X hρ hmks
  refine NX ?_
  repeat' (first|((first|((with_reducible apply AP.k_any);first|refine AP.S ?_|(refine AP.Y ?_;dsimp only)|refine AP.G (fun hg=>?_) (fun hg=>?_)))<;>(try refine NX ?_))|(refine AP.N0 ?_;try clear hQ' Q')|((with_reducible apply CP.k_reg);refine cp_regG fun Q' hQ'=>?_)|refine CP.W ?_|refine cp_cond rfl (fun hc=>?_) (fun hc=>?_)|(simp only [List.append_eq,List.cons_append,List.nil_append]))
  all_goals (refine RetQ.B [] ?_;(try dsimp only [resV,List.getD_cons_succ,List.getD_cons_zero]);((refine ⟨?_,rfl⟩;simp at *;simp [noneM, *])))
/-! the table of kinds -/
abbrev kAsk:List AV:=[fnv 161,fnv 163,fnv 164,fnv 167]
abbrev kHave:List AV:=[fnv 169,fnv 170,fnv 171,fnv 172]
abbrev kCfg:List AV:=[fnv 173,fnv 175,fnv 176,fnv 178]
abbrev kWhole:List AV:=[fnv 180,fnv 181,fnv 182,fnv 183]
abbrev kEnt:List AV:=[fnv 197,fnv 201,fnv 202,fnv 204]
abbrev kNo:List AV:=[.sc .nilFunc,.sc .nilFunc,.sc .nilFunc,.sc .nilFunc]
theorem entries_ac:AC Tryz.prog 168 [] [] (fun v bs=>v=.ag kEnt∧bs=[]):=by
  refine AC.N Tryz.func168 Tryz.ntmps168 ?_
  intro X hρ hmks
  refine NX ?_
  repeat' (first|((first|((with_reducible apply AP.k_any);first|refine AP.S ?_))<;>(try refine NX ?_))|(refine AP.N0 ?_;try clear hQ' Q')|((with_reducible apply CP.k_reg);refine cp_regG fun Q' hQ'=>?_)|refine CP.W ?_|refine cp_cond rfl (fun hc=>?_) (fun hc=>?_)|(simp only [List.append_eq,List.cons_append,List.nil_append]))
  (exact RetQ.A [] (by exact ⟨rfl,rfl⟩))
theorem kinds_ac:AC Tryz.prog 126 [] [] (fun v bs=>v=.ag (kNo ++ (kAsk ++ (kEnt ++ (kHave ++ (kCfg ++ (kWhole ++ kAsk))))))∧bs=[]):=by
  refine AC.N Tryz.func126 Tryz.ntmps126 ?_
  intro X hρ hmks
  refine NX ?_
  repeat' (first|((first|((with_reducible apply AP.k_any);first|refine AP.S ?_)|((with_reducible apply AP.k_any);refine AP.C (entries_ac) ?_)|((with_reducible apply DW.k_any);first|refine DW.R ?_|refine DW.R' ?_|refine DW.W ?_|refine DW.W' ?_|(refine DW.known rfl ?_;(with_reducible first|apply DW.sx 2|apply DW.sxN 2);(iterate 2 (focus (simp only [ft,nm,Nat.reduceAdd,Nat.reduceBEq,List.getElem?_cons_zero,List.getElem?_cons_succ];exact rfl)));(focus (intro X V;simp only [ft,nm,Nat.reduceAdd,Nat.reduceBEq];(try (refine AP.Y ?_;dsimp only));(first|((with_reducible apply AP.k_any);refine AP.C (entries_ac) ?_)|fail);(try refine NX ?_);refine AP.nil ?_;(first|refine ⟨trivial,rfl,?_⟩|refine ⟨rfl,rfl,?_⟩);(repeat' (first|exact Mg.nil|apply Mg.keep rfl|apply Mg.take rfl));done));(focus (refine Exists.intro (fun _=>0) ?_;apply Exists.intro;(repeat' (first|exact Mg.nil|apply Mg.keep rfl|apply Mg.take rfl));done));(iterate 2 (focus (exact rfl))))|((fail_if_success refine DW.known rfl ?_);refine DW.G (fun hg=>?_) (fun hg=>?_))))<;>(try refine NX ?_))|(refine AP.N0 ?_;try clear hQ' Q')|((with_reducible apply CP.k_drw);refine cp_drwX fun Q' hQ'=>?_)|((with_reducible apply CP.k_drw1);refine cp_drawX ?_)|((with_reducible apply DW.k_nil);refine DW.nl ?_;first|(refine hQ' _ ?_;clear hQ' Q')|skip)|((with_reducible apply CP.k_reg);refine cp_regG fun Q' hQ'=>?_)|refine CP.W ?_|refine cp_cond rfl (fun hc=>?_) (fun hc=>?_)|(simp only [List.append_eq,List.cons_append,List.nil_append]))
  (exact RetQ.A [] (by exact ⟨rfl,rfl⟩))
end Go.Proofs.YtmgneincjfhaoaaGreat

namespace Go.Proofs.YtmgneincjfhaoaaGreat
set_option linter.unusedVariables false
set_option linter.unusedSimpArgs false
set_option maxHeartbeats 8000000
open Go.RowKit
set_option maxRecDepth 100000
theorem putM_len {st:Bool×List UInt8} {m:Member} (h:st.2.length≤65536):(putM st m).2.length≤65536:=addS_len (addS_len (addS_len h))
theorem putConfig_ac (st:Bool×List UInt8) (c:Config) (hst:st.2.length≤65536) (hl:c.members.length≤100000000) :
    AC Tryz.prog 177 [.bp 0 0 0,.ag (eC none c)] [wB st] (fun v bs=>v=.bp 0 0 0∧bs=[wB (putC st c)]):=by
  have h1:=addS_len (st:=st) (b:=intS c.epoch) hst
  have h2:=addS_len (b:=intS c.members.length) h1
  refine AC.N Tryz.func177 Tryz.ntmps177 ?_
  intro X hρ hmks
  refine NX ?_
  repeat' (first|((first|((with_reducible apply AP.k_any);first|refine AP.S ?_|refine AP.E ?_|refine AP.T ?_))<;>(try refine NX ?_))|(refine AP.N0 ?_;try clear hQ' Q')|((with_reducible apply CP.k_reg);refine cp_regG fun Q' hQ'=>?_)|refine CP.W ?_|refine cp_cond rfl (fun hc=>?_) (fun hc=>?_)|(simp only [List.append_eq,List.cons_append,List.nil_append]))
  refine cp_drawI (fun zs zb=>⟨setT zs.t [(7,cond (zb.getD 0 false) (.bp 0 0 0) (.tu [])),(8,cond (zb.getD 1 false) (.bp 2 1 0) (.tu [])),(9,cond (zb.getD 2 false) (I c.epoch) (.tu [])),(10,cond (zb.getD 3 false) (.bp 0 0 0) (.tu [])),(11,cond (zb.getD 4 false) (.bp 2 1 1) (.tu [])),(12,cond (zb.getD 5 false) (ms none c.members) (.tu [])),(13,cond (zb.getD 6 false) (I c.members.length) (.tu [])),(14,cond (zb.getD 7 false) (.bp 0 0 0) (.tu []))],((zs.b.set 0 (cond (zb.getD 7 false) (⟨0,.c tW [B true,B (addS (addS st (intS c.epoch)) (intS c.members.length)).1,.hd 1 3]⟩) (cond (zb.getD 3 false) (⟨0,.c tW [B true,B (addS st (intS c.epoch)).1,.hd 1 2]⟩) (zs.b.getD 0 ⟨0,.x⟩)))).set 1 (cond (zb.getD 7 false) (⟨3,.r tU 1 ((addS (addS st (intS c.epoch)) (intS c.members.length)).2.map eB)⟩) (cond (zb.getD 3 false) (⟨2,.r tU 1 ((addS st (intS c.epoch)).2.map eB)⟩) (zs.b.getD 1 ⟨0,.x⟩))))⟩) (by kernel_rfl) (by kernel_rfl) (by kernel_rfl) ?_ ?_
  rotate_left
  simp only [cond_true,cond_false,setT,List.set_cons_succ,List.set_cons_zero,List.getD_cons_succ,List.getD_cons_zero,List.set_cons_succ,List.length_cons,List.length_nil,List.replicate_succ,List.replicate_zero,Nat.reduceAdd]
  rotate_left
  · intro b hb' hcl
    obtain ⟨l0,b0,rfl,hb0⟩:=len_cons hb'
    obtain ⟨l1,b1,rfl,hb1⟩:=len_cons hb0
    obtain ⟨l2,b2,rfl,hb2⟩:=len_cons hb1
    obtain ⟨l3,b3,rfl,hb3⟩:=len_cons hb2
    obtain ⟨l4,b4,rfl,hb4⟩:=len_cons hb3
    obtain ⟨l5,b5,rfl,hb5⟩:=len_cons hb4
    obtain ⟨l6,b6,rfl,hb6⟩:=len_cons hb5
    obtain ⟨l7,b7,rfl,hb7⟩:=len_cons hb6
    obtain rfl:=List.length_eq_zero_iff.1 hb7
    clear hb' hb0 hb1 hb2 hb3 hb4 hb5 hb6 hb7
    · simp only [closedB,depsOk,Region.binds,List.toList_toArray,List.all_cons,List.all_nil,List.getD_cons_succ,List.getD_cons_zero,Bool.not_true,Bool.not_false,Bool.true_or,Bool.false_or,Bool.and_true,Bool.true_and,Bool.or_true,Bool.and_false,Bool.or_false,Bool.false_and,Bool.and_eq_true,Bool.or_eq_true,Bool.not_eq_true'] at hcl
      simp only [StepsP]
      refine ⟨?_,?_,?_,?_,?_,?_,?_,?_,trivial⟩
      · intro h1 h2
        simp [depsOk,Region.binds] at h1 h2
        subst h1
        (repeat (obtain ⟨rfl,h2⟩:=h2))
        (try subst h2)
        clear hcl
        all_goals refine CD ?_
        all_goals ((with_reducible apply AP.k_any);first|(refine AP.sm false rfl ?_ ?_;focus (exact PF0))|fail "no step")
        all_goals (try refine NX ?_)
        all_goals refine AP.nil ?_
        all_goals exact ⟨rfl,rfl⟩
      · intro h1 h2
        simp [depsOk,Region.binds] at h1 h2
        subst h1
        (repeat (obtain ⟨rfl,h2⟩:=h2))
        (try subst h2)
        clear hcl
        all_goals refine CD ?_
        all_goals ((with_reducible apply AP.k_any);first|(refine AP.sm false rfl ?_ ?_;focus (exact PF0))|fail "no step")
        all_goals (try refine NX ?_)
        all_goals refine AP.nil ?_
        all_goals exact ⟨rfl,rfl⟩
      · intro h1 h2
        simp [depsOk,Region.binds] at h1 h2
        subst h1
        (repeat (obtain ⟨rfl,h2⟩:=h2))
        (try subst h2)
        (first|(obtain rfl:l3=false:=by grind only)|skip)
        (first|(obtain rfl:l7=false:=by grind only)|skip)
        clear hcl
        all_goals refine CD ?_
        all_goals ((with_reducible apply AP.k_any);first|(refine AP.sm false rfl ?_ ?_;focus (exact PF0))|(refine AP.el rfl ?_ (by (first|(refine ⟨?_,?_⟩;assumption;rfl)|exact ⟨mapAt (by (first|omega|(simp;omega)|(simp;done)|assumption)),rfl⟩|exact ⟨rfl,rfl⟩)) ?_;focus (exact PF0))|fail "no step")
        all_goals (try refine NX ?_)
        all_goals refine AP.nil ?_
        all_goals exact ⟨rfl,rfl⟩
      · intro h1 h2
        simp [depsOk,Region.binds] at h1 h2
        subst h1
        (repeat (obtain ⟨rfl,h2⟩:=h2))
        (try subst h2)
        (first|(obtain rfl:l7=false:=by grind only)|skip)
        clear hcl
        all_goals refine CD ?_
        (first
        | ((with_reducible apply AP.k_any);refine AP.CB [(0,0)] 0 (wint_ac st c.epoch hst) ?_)
        | ((with_reducible apply AP.k_any);refine AP.CB [(0,0)] 0 (wint_ac _ _ h1) ?_)
        | fail "no arm")
        all_goals (try refine NX ?_)
        all_goals refine AP.nil ?_
        all_goals exact ⟨rfl,rfl⟩
      · intro h1 h2
        simp [depsOk,Region.binds] at h1 h2
        subst h1
        (repeat (obtain ⟨rfl,h2⟩:=h2))
        (try subst h2)
        clear hcl
        all_goals refine CD ?_
        all_goals ((with_reducible apply AP.k_any);first|(refine AP.sm false rfl ?_ ?_;focus (exact PF0))|fail "no step")
        all_goals (try refine NX ?_)
        all_goals refine AP.nil ?_
        all_goals exact ⟨rfl,rfl⟩
      · intro h1 h2
        simp [depsOk,Region.binds] at h1 h2
        subst h1
        (repeat (obtain ⟨rfl,h2⟩:=h2))
        (try subst h2)
        (first|(obtain rfl:l7=false:=by grind only)|skip)
        clear hcl
        all_goals refine CD ?_
        all_goals ((with_reducible apply AP.k_any);first|(refine AP.sm false rfl ?_ ?_;focus (exact PF0))|(refine AP.el rfl ?_ (by (first|(refine ⟨?_,?_⟩;assumption;rfl)|exact ⟨mapAt (by (first|omega|(simp;omega)|(simp;done)|assumption)),rfl⟩|exact ⟨rfl,rfl⟩)) ?_;focus (exact PF0))|fail "no step")
        all_goals (try refine NX ?_)
        all_goals refine AP.nil ?_
        all_goals exact ⟨rfl,rfl⟩
      · intro h1 h2
        simp [depsOk,Region.binds] at h1 h2
        subst h1
        (repeat (obtain ⟨rfl,h2⟩:=h2))
        (try subst h2)
        (first|(obtain rfl:l7=false:=by grind only)|skip)
        clear hcl
        all_goals refine CD ?_
        all_goals ((with_reducible apply AP.k_any);first|(refine AP.sm false rfl ?_ ?_;focus (exact PF0))|fail "no step")
        all_goals (try refine NX ?_)
        all_goals refine AP.nil ?_
        all_goals exact ⟨rfl,rfl⟩
      · intro h1 h2
        simp [depsOk,Region.binds] at h1 h2
        subst h1
        (repeat (obtain ⟨rfl,h2⟩:=h2))
        (try subst h2)
        (first|(obtain rfl:l3=true:=by grind only)|skip)
        clear hcl
        all_goals refine CD ?_
        (first
        | ((with_reducible apply AP.k_any);refine AP.CB [(0,0)] 0 (wint_ac st c.epoch hst) ?_)
        | ((with_reducible apply AP.k_any);refine AP.CB [(0,0)] 0 (wint_ac _ _ h1) ?_)
        | fail "no arm")
        all_goals (try refine NX ?_)
        all_goals refine AP.nil ?_
        all_goals exact ⟨rfl,rfl⟩
  repeat' (first|((first|((with_reducible apply AP.k_any);first|refine AP.S ?_|refine AP.E ?_|refine AP.T ?_))<;>(try refine NX ?_))|(refine AP.N0 ?_;try clear hQ' Q')|((with_reducible apply CP.k_reg);refine cp_regG fun Q' hQ'=>?_)|refine CP.W ?_|refine cp_cond rfl (fun hc=>?_) (fun hc=>?_)|(simp only [List.append_eq,List.cons_append,List.nil_append]))
  refine CP.gh gh_slot ?_
  refine NX ?_
  refine cp_loopS [6,18,19,20,21,22,23,24,25,26,27,28,29,30,31,32] (fun a:Nat×(Bool×List UInt8)×Nat×Nat=>c.members.length - a.1) (fun a=>a.1≤c.members.length∧a.2.1=(c.members.take a.1).foldl putM (addS (addS st (intS c.epoch)) (intS c.members.length))∧a.2.1.2.length≤65536) (fun a=>[(18,I a.1)]) (fun a=>[(0,⟨0,.c tW [B true,B a.2.1.1,.hd 1 a.2.2.1]⟩),(1,⟨a.2.2.1,.r tU 1 (a.2.1.2.map eB)⟩),(3,⟨a.2.2.2,.x⟩)]) (0,_,3,0) ⟨Nat.zero_le _,rfl,h2⟩ (by exact Gh.W) ?_
  rintro ⟨k,sk,u,um⟩ ⟨hk,hs,ha⟩
  simp only [setT,deT,setB,List.set_cons_succ,List.set_cons_zero]
  dsimp only at hk hs ha
  by_cases hlt:k < c.members.length
  · have hw:IntKind.i64.wrap ((k:Int) + 1)=((k + 1:Nat):Int):=wrap_i64 (by omega) (by omega)
    have g1:=addS_len (b:=intS c.members[k].node) ha
    have g2:=addS_len (b:=intS c.members[k].since) g1
    repeat' (first|((first|((with_reducible apply AP.k_any);first|refine AP.S ?_|refine AP.E ?_|refine AP.T ?_))<;>(try refine NX ?_))|(refine AP.N0 ?_;try clear hQ' Q')|((with_reducible apply CP.k_reg);refine cp_regG fun Q' hQ'=>?_)|refine CP.W ?_|refine cp_cond rfl (fun hc=>?_) (fun hc=>?_)|(simp only [List.append_eq,List.cons_append,List.nil_append]))
    · refine cp_drawI (fun zs zb=>⟨setT zs.t [(22,cond (zb.getD 0 false) (.bp 0 0 0) (.de)),(23,cond (zb.getD 1 false) (.bp 3 (um + 1) 0) (.de)),(24,cond (zb.getD 2 false) (I c.members[k].node) (.de)),(25,cond (zb.getD 3 false) (.bp 0 0 0) (.de)),(26,cond (zb.getD 4 false) (.bp 3 (um + 1) 1) (.de)),(27,cond (zb.getD 5 false) (I c.members[k].since) (.de)),(28,cond (zb.getD 6 false) (.bp 0 0 0) (.de)),(29,cond (zb.getD 7 false) (.bp 3 (um + 1) 2) (.de)),(30,cond (zb.getD 8 false) (B c.members[k].whole) (.de)),(31,cond (zb.getD 9 false) (.bp 0 0 0) (.de))],((zs.b.set 0 (cond (zb.getD 9 false) (⟨0,.c tW [B true,B (putM sk c.members[k]).1,.hd 1 (u + 1 + 1 + 1)]⟩) (cond (zb.getD 6 false) (⟨0,.c tW [B true,B (addS (addS sk (intS c.members[k].node)) (intS c.members[k].since)).1,.hd 1 (u + 1 + 1)]⟩) (cond (zb.getD 3 false) (⟨0,.c tW [B true,B (addS sk (intS c.members[k].node)).1,.hd 1 (u + 1)]⟩) (zs.b.getD 0 ⟨0,.x⟩))))).set 1 (cond (zb.getD 9 false) (⟨(u + 1 + 1 + 1),.r tU 1 ((putM sk c.members[k]).2.map eB)⟩) (cond (zb.getD 6 false) (⟨(u + 1 + 1),.r tU 1 ((addS (addS sk (intS c.members[k].node)) (intS c.members[k].since)).2.map eB)⟩) (cond (zb.getD 3 false) (⟨(u + 1),.r tU 1 ((addS sk (intS c.members[k].node)).2.map eB)⟩) (zs.b.getD 1 ⟨0,.x⟩)))))⟩) (by kernel_rfl) (by kernel_rfl) (by kernel_rfl) ?_ ?_
      rotate_left
      simp only [cond_true,cond_false,setT,List.set_cons_succ,List.set_cons_zero,List.getD_cons_succ,List.getD_cons_zero,List.set_cons_succ,List.length_cons,List.length_nil,List.replicate_succ,List.replicate_zero,Nat.reduceAdd]
      rotate_left
      · intro b hb' hcl
        obtain ⟨l0,b0,rfl,hb0⟩:=len_cons hb'
        obtain ⟨l1,b1,rfl,hb1⟩:=len_cons hb0
        obtain ⟨l2,b2,rfl,hb2⟩:=len_cons hb1
        obtain ⟨l3,b3,rfl,hb3⟩:=len_cons hb2
        obtain ⟨l4,b4,rfl,hb4⟩:=len_cons hb3
        obtain ⟨l5,b5,rfl,hb5⟩:=len_cons hb4
        obtain ⟨l6,b6,rfl,hb6⟩:=len_cons hb5
        obtain ⟨l7,b7,rfl,hb7⟩:=len_cons hb6
        obtain ⟨l8,b8,rfl,hb8⟩:=len_cons hb7
        obtain ⟨l9,b9,rfl,hb9⟩:=len_cons hb8
        obtain rfl:=List.length_eq_zero_iff.1 hb9
        clear hb' hb0 hb1 hb2 hb3 hb4 hb5 hb6 hb7 hb8 hb9
        · simp only [closedB,depsOk,Region.binds,List.toList_toArray,List.all_cons,List.all_nil,List.getD_cons_succ,List.getD_cons_zero,Bool.not_true,Bool.not_false,Bool.true_or,Bool.false_or,Bool.and_true,Bool.true_and,Bool.or_true,Bool.and_false,Bool.or_false,Bool.false_and,Bool.and_eq_true,Bool.or_eq_true,Bool.not_eq_true'] at hcl
          simp only [StepsP]
          refine ⟨?_,?_,?_,?_,?_,?_,?_,?_,?_,?_,trivial⟩
          · intro h1 h2
            simp [depsOk,Region.binds] at h1 h2
            subst h1
            (repeat (obtain ⟨rfl,h2⟩:=h2))
            (try subst h2)
            clear hcl
            all_goals refine CD ?_
            all_goals ((with_reducible apply AP.k_any);first|(refine AP.sm false rfl ?_ ?_;focus (exact PF0))|fail "no step")
            all_goals (try refine NX ?_)
            all_goals refine AP.nil ?_
            all_goals exact ⟨rfl,rfl⟩
          · intro h1 h2
            simp [depsOk,Region.binds] at h1 h2
            subst h1
            (repeat (obtain ⟨rfl,h2⟩:=h2))
            (try subst h2)
            clear hcl
            all_goals refine CD ?_
            all_goals ((with_reducible apply AP.k_any);first|(refine AP.sm false rfl ?_ ?_;focus (exact PF0))|fail "no step")
            all_goals (try refine NX ?_)
            all_goals refine AP.nil ?_
            all_goals exact ⟨rfl,rfl⟩
          · intro h1 h2
            simp [depsOk,Region.binds] at h1 h2
            subst h1
            (repeat (obtain ⟨rfl,h2⟩:=h2))
            (try subst h2)
            (first|(obtain rfl:l3=false:=by grind only)|skip)
            (first|(obtain rfl:l6=false:=by grind only)|skip)
            (first|(obtain rfl:l9=false:=by grind only)|skip)
            clear hcl
            all_goals refine CD ?_
            all_goals ((with_reducible apply AP.k_any);first|(refine AP.sm false rfl ?_ ?_;focus (exact PF0))|(refine AP.el rfl ?_ (by (first|(refine ⟨?_,?_⟩;assumption;rfl)|exact ⟨mapAt (by (first|omega|(simp;omega)|(simp;done)|assumption)),rfl⟩|exact ⟨rfl,rfl⟩)) ?_;focus (exact PF0))|fail "no step")
            all_goals (try refine NX ?_)
            all_goals refine AP.nil ?_
            all_goals exact ⟨rfl,rfl⟩
          · intro h1 h2
            simp [depsOk,Region.binds] at h1 h2
            subst h1
            (repeat (obtain ⟨rfl,h2⟩:=h2))
            (try subst h2)
            (first|(obtain rfl:l6=false:=by grind only)|skip)
            (first|(obtain rfl:l9=false:=by grind only)|skip)
            clear hcl
            all_goals refine CD ?_
            (first
            | ((with_reducible apply AP.k_any);refine AP.CB [(0,0)] 0 (wint_ac sk _ ha) ?_)
            | ((with_reducible apply AP.k_any);refine AP.CB [(0,0)] 0 (wint_ac _ _ g1) ?_)
            | ((with_reducible apply AP.k_any);refine AP.CB [(0,0)] 0 (wflag_ac _ _ g2) ?_)
            | fail "no arm")
            all_goals (try refine NX ?_)
            all_goals refine AP.nil ?_
            all_goals exact ⟨rfl,rfl⟩
          · intro h1 h2
            simp [depsOk,Region.binds] at h1 h2
            subst h1
            (repeat (obtain ⟨rfl,h2⟩:=h2))
            (try subst h2)
            clear hcl
            all_goals refine CD ?_
            all_goals ((with_reducible apply AP.k_any);first|(refine AP.sm false rfl ?_ ?_;focus (exact PF0))|fail "no step")
            all_goals (try refine NX ?_)
            all_goals refine AP.nil ?_
            all_goals exact ⟨rfl,rfl⟩
          · intro h1 h2
            simp [depsOk,Region.binds] at h1 h2
            subst h1
            (repeat (obtain ⟨rfl,h2⟩:=h2))
            (try subst h2)
            (first|(obtain rfl:l6=false:=by grind only)|skip)
            (first|(obtain rfl:l9=false:=by grind only)|skip)
            clear hcl
            all_goals refine CD ?_
            all_goals ((with_reducible apply AP.k_any);first|(refine AP.sm false rfl ?_ ?_;focus (exact PF0))|(refine AP.el rfl ?_ (by (first|(refine ⟨?_,?_⟩;assumption;rfl)|exact ⟨mapAt (by (first|omega|(simp;omega)|(simp;done)|assumption)),rfl⟩|exact ⟨rfl,rfl⟩)) ?_;focus (exact PF0))|fail "no step")
            all_goals (try refine NX ?_)
            all_goals refine AP.nil ?_
            all_goals exact ⟨rfl,rfl⟩
          · intro h1 h2
            simp [depsOk,Region.binds] at h1 h2
            subst h1
            (repeat (obtain ⟨rfl,h2⟩:=h2))
            (try subst h2)
            (first|(obtain rfl:l3=true:=by grind only)|skip)
            (first|(obtain rfl:l9=false:=by grind only)|skip)
            clear hcl
            all_goals refine CD ?_
            (first
            | ((with_reducible apply AP.k_any);refine AP.CB [(0,0)] 0 (wint_ac sk _ ha) ?_)
            | ((with_reducible apply AP.k_any);refine AP.CB [(0,0)] 0 (wint_ac _ _ g1) ?_)
            | ((with_reducible apply AP.k_any);refine AP.CB [(0,0)] 0 (wflag_ac _ _ g2) ?_)
            | fail "no arm")
            all_goals (try refine NX ?_)
            all_goals refine AP.nil ?_
            all_goals exact ⟨rfl,rfl⟩
          · intro h1 h2
            simp [depsOk,Region.binds] at h1 h2
            subst h1
            (repeat (obtain ⟨rfl,h2⟩:=h2))
            (try subst h2)
            clear hcl
            all_goals refine CD ?_
            all_goals ((with_reducible apply AP.k_any);first|(refine AP.sm false rfl ?_ ?_;focus (exact PF0))|fail "no step")
            all_goals (try refine NX ?_)
            all_goals refine AP.nil ?_
            all_goals exact ⟨rfl,rfl⟩
          · intro h1 h2
            simp [depsOk,Region.binds] at h1 h2
            subst h1
            (repeat (obtain ⟨rfl,h2⟩:=h2))
            (try subst h2)
            (first|(obtain rfl:l9=false:=by grind only)|skip)
            clear hcl
            all_goals refine CD ?_
            all_goals ((with_reducible apply AP.k_any);first|(refine AP.sm false rfl ?_ ?_;focus (exact PF0))|(refine AP.el rfl ?_ (by (first|(refine ⟨?_,?_⟩;assumption;rfl)|exact ⟨mapAt (by (first|omega|(simp;omega)|(simp;done)|assumption)),rfl⟩|exact ⟨rfl,rfl⟩)) ?_;focus (exact PF0))|fail "no step")
            all_goals (try refine NX ?_)
            all_goals refine AP.nil ?_
            all_goals exact ⟨rfl,rfl⟩
          · intro h1 h2
            simp [depsOk,Region.binds] at h1 h2
            subst h1
            (repeat (obtain ⟨rfl,h2⟩:=h2))
            (try subst h2)
            (first|(obtain rfl:l3=true:=by grind only)|skip)
            (first|(obtain rfl:l6=true:=by grind only)|skip)
            clear hcl
            all_goals refine CD ?_
            (first
            | ((with_reducible apply AP.k_any);refine AP.CB [(0,0)] 0 (wint_ac sk _ ha) ?_)
            | ((with_reducible apply AP.k_any);refine AP.CB [(0,0)] 0 (wint_ac _ _ g1) ?_)
            | ((with_reducible apply AP.k_any);refine AP.CB [(0,0)] 0 (wflag_ac _ _ g2) ?_)
            | fail "no arm")
            all_goals (try refine NX ?_)
            all_goals refine AP.nil ?_
            all_goals exact ⟨rfl,rfl⟩
      repeat' (first|((first|((with_reducible apply AP.k_any);first|refine AP.S ?_|refine AP.E ?_|refine AP.T ?_))<;>(try refine NX ?_))|(refine AP.N0 ?_;try clear hQ' Q')|((with_reducible apply CP.k_reg);refine cp_regG fun Q' hQ'=>?_)|refine CP.W ?_|refine cp_cond rfl (fun hc=>?_) (fun hc=>?_)|(simp only [List.append_eq,List.cons_append,List.nil_append]))
      simp only [hw]
      exact ⟨(k + 1,putM sk c.members[k],u + 1 + 1 + 1,um + 1),by (dsimp only;omega),⟨by (dsimp only;omega),by (dsimp only;rw [List.take_succ_eq_append_getElem hlt,List.foldl_append,←hs];rfl),putM_len ha⟩,by exact Gh.W⟩
    · exfalso;simp at *;omega
  · obtain rfl:k=c.members.length:=by omega
    rw [List.take_length] at hs
    have hs':sk=putC st c:=hs
    rw [←hs']
    repeat' (first|((first|((with_reducible apply AP.k_any);first|refine AP.S ?_|refine AP.E ?_|refine AP.T ?_))<;>(try refine NX ?_))|(refine AP.N0 ?_;try clear hQ' Q')|((with_reducible apply CP.k_reg);refine cp_regG fun Q' hQ'=>?_)|refine CP.W ?_|refine cp_cond rfl (fun hc=>?_) (fun hc=>?_)|(simp only [List.append_eq,List.cons_append,List.nil_append]))
    all_goals first
      | (exfalso;simp at *;done)
      | (exfalso;simp at *;omega)
      | (exact RetQ.A [(0,0)] (by exact ⟨rfl,rfl⟩))
end Go.Proofs.YtmgneincjfhaoaaGreat

namespace Go.Proofs.YtmgneincjfhaoaaGreat
set_option linter.unusedVariables false
set_option linter.unusedSimpArgs false
set_option maxHeartbeats 8000000
open Go.RowKit
set_option maxRecDepth 100000
def allGE (p:Nat→Entry→Bool):Nat→List Entry→Bool
  | _,[]=>true
  | k,m :: l=>p k m && allGE p (k + 1) l
theorem all3_ac (f:Nat) (m:Msg) (p:Nat→Entry→Bool) (l:List Entry) (hl:l.length≤100000000) (hf:∀ (i:Nat) (h:i < l.length),AC Tryz.prog f [I i,.ag (eE none l[i]),.bp 0 0 0] [.c tMsg (eG m)] (fun v bs=>v=B (p i l[i])∧bs=[.c tMsg (eG m)])) :
    AC Tryz.prog 198 [es none none l,.fn f [.bp 0 0 0]] [.c tMsg (eG m)] (fun v bs=>v=B (allGE p 0 l)∧bs=[.c tMsg (eG m)]):=by
  refine AC.N Tryz.func198 Tryz.ntmps198 ?_
  intro X hρ hmks
  refine NX ?_
  repeat' (first|((first|((with_reducible apply AP.k_any);first|refine AP.S ?_|refine AP.E ?_|refine AP.T ?_))<;>(try refine NX ?_))|(refine AP.N0 ?_;try clear hQ' Q')|((with_reducible apply CP.k_reg);refine cp_regG fun Q' hQ'=>?_)|refine CP.W ?_|refine cp_cond rfl (fun hc=>?_) (fun hc=>?_)|(simp only [List.append_eq,List.cons_append,List.nil_append]))
  refine CP.gh gh_slot ?_
  refine NX ?_
  refine cp_loopS [4,5,6,9,10,11,12,13,14,15,16,17,18,19] (fun a:Nat×Nat=>l.length - a.1) (fun a=>a.1≤l.length∧allGE p 0 l=allGE p a.1 (l.drop a.1)) (fun a=>[(9,I a.1)]) (fun a=>[(1,⟨a.2,.x⟩)]) (0,0) ⟨Nat.zero_le _,rfl⟩ (by exact Gh.W) ?_
  rintro ⟨k,u⟩ ⟨hk,he⟩
  simp only [setT,deT,setB,List.set_cons_succ,List.set_cons_zero]
  dsimp only at hk he
  by_cases hlt:k < l.length
  · have hw:IntKind.i64.wrap ((k:Int) + 1)=((k + 1:Nat):Int):=wrap_i64 (by omega) (by omega)
    rw [List.drop_eq_getElem_cons hlt,allGE] at he
    repeat' (first|((first|((with_reducible apply AP.k_any);first|refine AP.S ?_|refine AP.E ?_|refine AP.T ?_)|((with_reducible apply AP.k_any);refine ap_callB 0 [(0,0)] rfl rfl (fn:=f) rfl (hf k hlt) (by (repeat' (first|exact PasC.nil|apply PasC.nil|apply PasC.cons|apply PasV.leaf rfl|apply PasV.nl|apply PasV.bp rfl|apply PasV.vp rfl|apply PasV.pz|exact VsM.nil|apply VsM.cons rfl|apply PasV.lend rfl rfl rfl|apply PasV.lend rfl rfl (ro_B _)|apply PasV.lend rfl rfl (ro_M _)|apply PasV.lend rfl rfl (ro_E _ _)|apply PasV.lend rfl rfl (ro_I _)|apply PasV.lend rfl rfl (by (simp only [rn,List.map_cons,List.map_nil];first|done|rfl))|apply PasV.mv rfl|apply PasV.hk rfl|apply PasV.ag|apply PasV.fn|exact PasV.fs|apply PasV.any))) (by (repeat' (first|exact ClsC.nil|apply ClsC.nl|apply ClsC.leaf rfl|apply ClsC.hd rfl|apply ClsC.ob rfl|apply ClsC.mo rfl|apply ClsC.mp rfl|apply ClsC.hp rfl|exact Out.nil|apply Out.cons rfl|apply Out.r rfl|apply Out.f rfl|apply ClsC.fn|apply ClsC.fz rfl (ro_B _)|apply ClsC.fz rfl (ro_M _)|apply ClsC.fz rfl (ro_E _ _)|apply ClsC.fz rfl rfl))) rfl (by (repeat' (first|exact Bk.nil|apply Bk.cons rfl rfl rfl|apply Bk.r rfl))) (by (repeat' (first|exact RnV.leaf rfl|exact RnV.fs|exact RnC.nil|apply RnC.cons|apply RnV.ag|apply RnV.tu|apply RnV.fn|exact RnV.bp rfl))) rfl ?_))<;>(try refine NX ?_))|(refine AP.N0 ?_;try clear hQ' Q')|((with_reducible apply CP.k_reg);refine cp_regG fun Q' hQ'=>?_)|refine CP.W ?_|refine cp_cond rfl (fun hc=>?_) (fun hc=>?_)|(simp only [List.append_eq,List.cons_append,List.nil_append]))
    · (refine RetQ.B [(0,0)] ?_;(try dsimp only [resV,List.getD_cons_succ,List.getD_cons_zero]);((have h:p k l[k]=false:=by simpa using hc);exact ⟨by rw [he,h,Bool.false_and],rfl⟩))
    · simp only [hw]
      exact ⟨(k + 1,u + 1),by (dsimp only;omega),⟨by (dsimp only;omega),by (have h:p k l[k]=true:=by simpa using hc);rw [he,h,Bool.true_and]⟩,by exact Gh.W⟩
    · exfalso;simp at *;omega
  · rw [List.drop_of_length_le (by omega),allGE] at he
    repeat' (first|((first|((with_reducible apply AP.k_any);first|refine AP.S ?_|refine AP.E ?_|refine AP.T ?_))<;>(try refine NX ?_))|(refine AP.N0 ?_;try clear hQ' Q')|((with_reducible apply CP.k_reg);refine cp_regG fun Q' hQ'=>?_)|refine CP.W ?_|refine cp_cond rfl (fun hc=>?_) (fun hc=>?_)|(simp only [List.append_eq,List.cons_append,List.nil_append]))
    all_goals first
      | (exfalso;simp at *;done)
      | (exfalso;simp at *;omega)
      | (refine RetQ.B [(0,0)] ?_;(try dsimp only [resV,List.getD_cons_succ,List.getD_cons_zero]);(exact ⟨by rw [he],rfl⟩))
def pEnt (m:Msg):Nat→Entry→Bool:=fun i e=>mayE e && IntKind.i64.wrap (e.pos - m.frm) == (i:Int)
def mayEnt (m:Msg):Bool:=decide (0≤m.upto) && decide (1≤m.frm) && decide (m.entries.length≤4) && allGE (pEnt m) 0 m.entries
theorem ent11_ac (i:Nat) (e:Entry) (m:Msg):AC Tryz.prog 199 [I i,.ag (eE none e),.bp 0 0 0] [.c tMsg (eG m)] (fun v bs=>v=B (pEnt m i e)∧bs=[.c tMsg (eG m)]):=by
  refine AC.N Tryz.func199 Tryz.ntmps199 ?_
  intro X hρ hmks
  refine NX ?_
  repeat' (first|((first|((with_reducible apply AP.k_any);first|refine AP.S ?_|(refine AP.Y ?_;dsimp only)|refine AP.G (fun hg=>?_) (fun hg=>?_))|((with_reducible apply AP.k_any);refine AP.C (mayEntry_ac _) ?_))<;>(try refine NX ?_))|(refine AP.N0 ?_;try clear hQ' Q')|((with_reducible apply CP.k_reg);refine cp_regG fun Q' hQ'=>?_)|refine CP.W ?_|refine cp_cond rfl (fun hc=>?_) (fun hc=>?_)|(simp only [List.append_eq,List.cons_append,List.nil_append]))
  all_goals (refine RetQ.B [(0,0)] ?_;(try dsimp only [resV,List.getD_cons_succ,List.getD_cons_zero]);((refine ⟨?_,rfl⟩;simp at *;simp [pEnt, *])))
theorem emay1_ac (m:Msg) (hl:m.entries.length≤100000000):AC Tryz.prog 197 [.ag (eG m)] [] (fun v bs=>v=B (mayEnt m)∧bs=[]):=by
  have h:=all3_ac 199 m (pEnt m) m.entries hl (fun i h=>ent11_ac i _ m)
  refine AC.N Tryz.func197 Tryz.ntmps197 ?_
  intro X hρ hmks
  refine NX ?_
  repeat' (first|((first|((with_reducible apply AP.k_any);first|refine AP.S ?_|(refine AP.Y ?_;dsimp only)|refine AP.G (fun hg=>?_) (fun hg=>?_))|((with_reducible apply AP.k_any);refine AP.CB [(0,1)] 0 (h) ?_))<;>(try refine NX ?_))|(refine AP.N0 ?_;try clear hQ' Q')|((with_reducible apply CP.k_reg);refine cp_regG fun Q' hQ'=>?_)|refine CP.W ?_|refine cp_cond rfl (fun hc=>?_) (fun hc=>?_)|(simp only [List.append_eq,List.cons_append,List.nil_append]))
  all_goals (refine RetQ.B [] ?_;(try dsimp only [resV,List.getD_cons_succ,List.getD_cons_zero]);((refine ⟨?_,rfl⟩;simp at *;simp [mayEnt, *];try omega)))
theorem of1_ac (m:Msg) (h:m.kind.toNat=1):AC Tryz.prog 82 [.ag (eG m)] [] (fun v bs=>v=.tu [.ag kAsk,B true]∧bs=[]):=by
  have e:(m.kind.toNat:Int)=1:=by omega
  refine AC.N Tryz.func82 Tryz.ntmps82 ?_
  intro X hρ hmks
  refine NX ?_
  simp only [e]
  repeat' (first|((first|((with_reducible apply AP.k_any);first|refine AP.S ?_|refine AP.E ?_|(refine AP.Y ?_;dsimp only)|refine AP.G (fun hg=>?_) (fun hg=>?_)|refine AP.T ?_)|((with_reducible apply AP.k_any);refine AP.C (kinds_ac) ?_))<;>(try refine NX ?_))|(refine AP.N0 ?_;try clear hQ' Q')|((with_reducible apply CP.k_reg);refine cp_regG fun Q' hQ'=>?_)|refine CP.W ?_|refine cp_cond rfl (fun hc=>?_) (fun hc=>?_)|(simp only [List.append_eq,List.cons_append,List.nil_append]))
  all_goals first|(exact RetQ.A [] (by exact ⟨rfl,rfl⟩))|(exfalso;simp at *;done)
theorem of2_ac (m:Msg) (h:m.kind.toNat=2):AC Tryz.prog 82 [.ag (eG m)] [] (fun v bs=>v=.tu [.ag kEnt,B true]∧bs=[]):=by
  have e:(m.kind.toNat:Int)=2:=by omega
  refine AC.N Tryz.func82 Tryz.ntmps82 ?_
  intro X hρ hmks
  refine NX ?_
  simp only [e]
  repeat' (first|((first|((with_reducible apply AP.k_any);first|refine AP.S ?_|refine AP.E ?_|(refine AP.Y ?_;dsimp only)|refine AP.G (fun hg=>?_) (fun hg=>?_)|refine AP.T ?_)|((with_reducible apply AP.k_any);refine AP.C (kinds_ac) ?_))<;>(try refine NX ?_))|(refine AP.N0 ?_;try clear hQ' Q')|((with_reducible apply CP.k_reg);refine cp_regG fun Q' hQ'=>?_)|refine CP.W ?_|refine cp_cond rfl (fun hc=>?_) (fun hc=>?_)|(simp only [List.append_eq,List.cons_append,List.nil_append]))
  all_goals first|(exact RetQ.A [] (by exact ⟨rfl,rfl⟩))|(exfalso;simp at *;done)
theorem of3_ac (m:Msg) (h:m.kind.toNat=3):AC Tryz.prog 82 [.ag (eG m)] [] (fun v bs=>v=.tu [.ag kHave,B true]∧bs=[]):=by
  have e:(m.kind.toNat:Int)=3:=by omega
  refine AC.N Tryz.func82 Tryz.ntmps82 ?_
  intro X hρ hmks
  refine NX ?_
  simp only [e]
  repeat' (first|((first|((with_reducible apply AP.k_any);first|refine AP.S ?_|refine AP.E ?_|(refine AP.Y ?_;dsimp only)|refine AP.G (fun hg=>?_) (fun hg=>?_)|refine AP.T ?_)|((with_reducible apply AP.k_any);refine AP.C (kinds_ac) ?_))<;>(try refine NX ?_))|(refine AP.N0 ?_;try clear hQ' Q')|((with_reducible apply CP.k_reg);refine cp_regG fun Q' hQ'=>?_)|refine CP.W ?_|refine cp_cond rfl (fun hc=>?_) (fun hc=>?_)|(simp only [List.append_eq,List.cons_append,List.nil_append]))
  all_goals first|(exact RetQ.A [] (by exact ⟨rfl,rfl⟩))|(exfalso;simp at *;done)
theorem of4_ac (m:Msg) (h:m.kind.toNat=4):AC Tryz.prog 82 [.ag (eG m)] [] (fun v bs=>v=.tu [.ag kCfg,B true]∧bs=[]):=by
  have e:(m.kind.toNat:Int)=4:=by omega
  refine AC.N Tryz.func82 Tryz.ntmps82 ?_
  intro X hρ hmks
  refine NX ?_
  simp only [e]
  repeat' (first|((first|((with_reducible apply AP.k_any);first|refine AP.S ?_|refine AP.E ?_|(refine AP.Y ?_;dsimp only)|refine AP.G (fun hg=>?_) (fun hg=>?_)|refine AP.T ?_)|((with_reducible apply AP.k_any);refine AP.C (kinds_ac) ?_))<;>(try refine NX ?_))|(refine AP.N0 ?_;try clear hQ' Q')|((with_reducible apply CP.k_reg);refine cp_regG fun Q' hQ'=>?_)|refine CP.W ?_|refine cp_cond rfl (fun hc=>?_) (fun hc=>?_)|(simp only [List.append_eq,List.cons_append,List.nil_append]))
  all_goals first|(exact RetQ.A [] (by exact ⟨rfl,rfl⟩))|(exfalso;simp at *;done)
theorem of5_ac (m:Msg) (h:m.kind.toNat=5):AC Tryz.prog 82 [.ag (eG m)] [] (fun v bs=>v=.tu [.ag kWhole,B true]∧bs=[]):=by
  have e:(m.kind.toNat:Int)=5:=by omega
  refine AC.N Tryz.func82 Tryz.ntmps82 ?_
  intro X hρ hmks
  refine NX ?_
  simp only [e]
  repeat' (first|((first|((with_reducible apply AP.k_any);first|refine AP.S ?_|refine AP.E ?_|(refine AP.Y ?_;dsimp only)|refine AP.G (fun hg=>?_) (fun hg=>?_)|refine AP.T ?_)|((with_reducible apply AP.k_any);refine AP.C (kinds_ac) ?_))<;>(try refine NX ?_))|(refine AP.N0 ?_;try clear hQ' Q')|((with_reducible apply CP.k_reg);refine cp_regG fun Q' hQ'=>?_)|refine CP.W ?_|refine cp_cond rfl (fun hc=>?_) (fun hc=>?_)|(simp only [List.append_eq,List.cons_append,List.nil_append]))
  all_goals first|(exact RetQ.A [] (by exact ⟨rfl,rfl⟩))|(exfalso;simp at *;done)
theorem of6_ac (m:Msg) (h:m.kind.toNat=6):AC Tryz.prog 82 [.ag (eG m)] [] (fun v bs=>v=.tu [.ag kAsk,B true]∧bs=[]):=by
  have e:(m.kind.toNat:Int)=6:=by omega
  refine AC.N Tryz.func82 Tryz.ntmps82 ?_
  intro X hρ hmks
  refine NX ?_
  simp only [e]
  repeat' (first|((first|((with_reducible apply AP.k_any);first|refine AP.S ?_|refine AP.E ?_|(refine AP.Y ?_;dsimp only)|refine AP.G (fun hg=>?_) (fun hg=>?_)|refine AP.T ?_)|((with_reducible apply AP.k_any);refine AP.C (kinds_ac) ?_))<;>(try refine NX ?_))|(refine AP.N0 ?_;try clear hQ' Q')|((with_reducible apply CP.k_reg);refine cp_regG fun Q' hQ'=>?_)|refine CP.W ?_|refine cp_cond rfl (fun hc=>?_) (fun hc=>?_)|(simp only [List.append_eq,List.cons_append,List.nil_append]))
  all_goals first|(exact RetQ.A [] (by exact ⟨rfl,rfl⟩))|(exfalso;simp at *;done)
theorem ofNo_ac (m:Msg) (h:m.kind.toNat=0∨7≤m.kind.toNat):AC Tryz.prog 82 [.ag (eG m)] [] (fun v bs=>v=.tu [.ag kNo,B false]∧bs=[]):=by
  have hw:IntKind.i64.wrap (m.kind.toNat:Int)=(m.kind.toNat:Int):=wrap_i64 (by omega) (by have:=m.kind.toNat_lt;omega)
  refine AC.N Tryz.func82 Tryz.ntmps82 ?_
  intro X hρ hmks
  refine NX ?_
  repeat' (first|((first|((with_reducible apply AP.k_any);first|refine AP.S ?_|refine AP.E ?_|(refine AP.Y ?_;dsimp only)|refine AP.G (fun hg=>?_) (fun hg=>?_)|refine AP.T ?_)|((with_reducible apply AP.k_any);refine AP.C (kinds_ac) ?_))<;>(try refine NX ?_))|(refine AP.N0 ?_;try clear hQ' Q')|((with_reducible apply CP.k_reg);refine cp_regG fun Q' hQ'=>?_)|refine CP.W ?_|refine cp_cond rfl (fun hc=>?_) (fun hc=>?_)|(simp only [List.append_eq,List.cons_append,List.nil_append]))
  all_goals first|(exact RetQ.A [] (by exact ⟨rfl,rfl⟩))|(exfalso;simp [hw] at *;omega)
end Go.Proofs.YtmgneincjfhaoaaGreat

namespace Go.Proofs.YtmgneincjfhaoaaGreat
set_option linter.unusedVariables false
set_option linter.unusedSimpArgs false
set_option maxHeartbeats 8000000
open Go.RowKit
set_option maxRecDepth 100000
def mayM (m:Msg):Bool:=match m.kind.toNat with
  | 1=>mayAsk m && noneM (bareAsk m)
  | 2=>mayEnt m && noneM (bareEnt m)
  | 3=>mayHave m && noneM (bareHave m)
  | 4=>mayCfg m.cfg && noneM (bareCfg m)
  | 5=>mayWhole m && noneM (bareWhole m)
  | 6=>mayAsk m && noneM (bareAsk m)
  | _=>false
theorem kind_cases (k:UInt8):k.toNat=1∨k.toNat=2∨k.toNat=3∨k.toNat=4∨k.toNat=5∨k.toNat=6∨(k.toNat=0∨7≤k.toNat):=by omega
theorem mayG_ac (f1 f2 f3 f4:Nat) (m mb:Msg) (x:Bool) (hof:AC Tryz.prog 82 [.ag (eG m)] [] (fun v bs=>v=.tu [.ag [fnv f1,fnv f2,fnv f3,fnv f4],B true]∧bs=[]))
    (hmay:AC Tryz.prog f1 [.ag (eG m)] [] (fun v bs=>v=B x∧bs=[])) (hbare:AC Tryz.prog f2 [.ag (eG m)] [] (fun v bs=>v=.ag (eG mb)∧bs=[])) :
    AC Tryz.prog 84 [.ag (eG m)] [] (fun v bs=>v=B (x && noneM mb)∧bs=[]):=by
  refine AC.N Tryz.func84 Tryz.ntmps84 ?_
  intro X hρ hmks
  refine NX ?_
  repeat' (first|((first|((with_reducible apply AP.k_any);first|refine AP.S ?_|(refine AP.Y ?_;dsimp only)|refine AP.G (fun hg=>?_) (fun hg=>?_))|((with_reducible apply AP.k_any);refine AP.C (hof) ?_)|((with_reducible apply AP.k_any);refine ap_callX rfl rfl (fn:=f1) rfl (hmay) (by (repeat' (first|exact PasC.nil|apply PasC.nil|apply PasC.cons|apply PasV.leaf rfl|apply PasV.nl|apply PasV.bp rfl|apply PasV.vp rfl|apply PasV.pz|exact VsM.nil|apply VsM.cons rfl|apply PasV.lend rfl rfl rfl|apply PasV.lend rfl rfl (ro_B _)|apply PasV.lend rfl rfl (ro_M _)|apply PasV.lend rfl rfl (ro_E _ _)|apply PasV.lend rfl rfl (ro_I _)|apply PasV.lend rfl rfl (by (simp only [rn,List.map_cons,List.map_nil];first|done|rfl))|apply PasV.mv rfl|apply PasV.hk rfl|apply PasV.ag|apply PasV.fn|exact PasV.fs|apply PasV.any))) rfl rfl ?_)|((with_reducible apply AP.k_any);refine ap_callX rfl rfl (fn:=f2) rfl (hbare) (by (repeat' (first|exact PasC.nil|apply PasC.nil|apply PasC.cons|apply PasV.leaf rfl|apply PasV.nl|apply PasV.bp rfl|apply PasV.vp rfl|apply PasV.pz|exact VsM.nil|apply VsM.cons rfl|apply PasV.lend rfl rfl rfl|apply PasV.lend rfl rfl (ro_B _)|apply PasV.lend rfl rfl (ro_M _)|apply PasV.lend rfl rfl (ro_E _ _)|apply PasV.lend rfl rfl (ro_I _)|apply PasV.lend rfl rfl (by (simp only [rn,List.map_cons,List.map_nil];first|done|rfl))|apply PasV.mv rfl|apply PasV.hk rfl|apply PasV.ag|apply PasV.fn|exact PasV.fs|apply PasV.any))) rfl rfl ?_)|((with_reducible apply AP.k_any);refine AP.C (none_ac mb) ?_))<;>(try refine NX ?_))|(refine AP.N0 ?_;try clear hQ' Q')|((with_reducible apply CP.k_reg);refine cp_regG fun Q' hQ'=>?_)|refine CP.W ?_|refine cp_cond rfl (fun hc=>?_) (fun hc=>?_)|(simp only [List.append_eq,List.cons_append,List.nil_append]))
  all_goals (refine RetQ.B [] ?_;(try dsimp only [resV,List.getD_cons_succ,List.getD_cons_zero]);((refine ⟨?_,rfl⟩;simp at *;simp [*])))
theorem may_no (m:Msg) (h:m.kind.toNat=0∨7≤m.kind.toNat):mayM m=false:=by
  unfold mayM
  split<;>first|omega|rfl
theorem mayMsg_ac (m:Msg) (h1:m.entries.length≤100000000) (h2:m.cfg.members.length≤100000000):AC Tryz.prog 84 [.ag (eG m)] [] (fun v bs=>v=B (mayM m)∧bs=[]):=by
  rcases kind_cases m.kind with h|h|h|h|h|h|h
  · have:=mayG_ac _ _ _ _ m _ _ (of1_ac m h) (kmay1_ac m) (kbare2_ac m)
    rwa [show mayM m=(mayAsk m && noneM (bareAsk m)) from by simp only [mayM,h]]
  · have:=mayG_ac _ _ _ _ m _ _ (of2_ac m h) (emay1_ac m h1) (ebare2_ac m)
    rwa [show mayM m=(mayEnt m && noneM (bareEnt m)) from by simp only [mayM,h]]
  · have:=mayG_ac _ _ _ _ m _ _ (of3_ac m h) (kmay5_ac m) (kbare6_ac m)
    rwa [show mayM m=(mayHave m && noneM (bareHave m)) from by simp only [mayM,h]]
  · have:=mayG_ac _ _ _ _ m _ _ (of4_ac m h) (kmay9_ac m h2) (kbare10_ac m)
    rwa [show mayM m=(mayCfg m.cfg && noneM (bareCfg m)) from by simp only [mayM,h]]
  · have:=mayG_ac _ _ _ _ m _ _ (of5_ac m h) (kmay13_ac m) (kbare14_ac m)
    rwa [show mayM m=(mayWhole m && noneM (bareWhole m)) from by simp only [mayM,h]]
  · have:=mayG_ac _ _ _ _ m _ _ (of6_ac m h) (kmay1_ac m) (kbare2_ac m)
    rwa [show mayM m=(mayAsk m && noneM (bareAsk m)) from by simp only [mayM,h]]
  · rw [may_no m h]
    refine AC.N Tryz.func84 Tryz.ntmps84 ?_
    intro X hρ hmks
    refine NX ?_
    repeat' (first|((first|((with_reducible apply AP.k_any);first|refine AP.S ?_|(refine AP.Y ?_;dsimp only)|refine AP.G (fun hg=>?_) (fun hg=>?_))|((with_reducible apply AP.k_any);refine AP.C (ofNo_ac m h) ?_))<;>(try refine NX ?_))|(refine AP.N0 ?_;try clear hQ' Q')|((with_reducible apply CP.k_reg);refine cp_regG fun Q' hQ'=>?_)|refine CP.W ?_|refine cp_cond rfl (fun hc=>?_) (fun hc=>?_)|(simp only [List.append_eq,List.cons_append,List.nil_append]))
    all_goals (refine RetQ.B [] ?_;(try dsimp only [resV,List.getD_cons_succ,List.getD_cons_zero]);(exact ⟨rfl,rfl⟩))
/-! written down -/
def putAsk (st:Bool×List UInt8) (m:Msg):Bool×List UInt8:=addS (addS (addS (addS st (intS m.client)) (intS m.id)) (putS m.body.length 4)) m.body
def putHave (st:Bool×List UInt8) (m:Msg):Bool×List UInt8:=addS (addS st (intS m.have_)) (intS m.done)
def putWhole (st:Bool×List UInt8) (m:Msg):Bool×List UInt8:=addS st (intS m.since)
def putEnt (st:Bool×List UInt8) (m:Msg):Bool×List UInt8:=m.entries.foldl putR (addS (addS (addS st (intS m.upto)) (intS m.frm)) (intS m.entries.length))
theorem kput3_ac (st:Bool×List UInt8) (m:Msg) (hst:st.2.length≤65536) (hb:m.body.length≤100000000) :
    AC Tryz.prog 164 [.bp 0 0 0,.ag (eG m)] [wB st] (fun v bs=>v=.tu []∧bs=[wB (putAsk st m)]):=by
  have h1:=addS_len (st:=st) (b:=intS m.client) hst
  have h2:=addS_len (b:=intS m.id) h1
  refine AC.N Tryz.func164 Tryz.ntmps164 ?_
  intro X hρ hmks
  refine NX ?_
  repeat' (first|((first|((with_reducible apply AP.k_any);first|refine AP.S ?_))<;>(try refine NX ?_))|(refine AP.N0 ?_;try clear hQ' Q')|((with_reducible apply CP.k_reg);refine cp_regG fun Q' hQ'=>?_)|refine CP.W ?_|refine cp_cond rfl (fun hc=>?_) (fun hc=>?_)|(simp only [List.append_eq,List.cons_append,List.nil_append]))
  refine CP.gh gh_slot ?_
  refine NX ?_
  repeat' (first|((first|((with_reducible apply AP.k_any);first|refine AP.S ?_)|((with_reducible apply AP.k_any);refine AP.CB [(0,0)] 0 (wint_ac st m.client hst) ?_)|((with_reducible apply AP.k_any);refine AP.CB [(0,0)] 0 (wint_ac _ m.id h1) ?_)|((with_reducible apply AP.k_any);refine AP.CB [(0,0)] 0 (wbytes_ac _ m.body h2 hb) ?_)|((with_reducible apply DW.k_any);first|refine DW.R ?_|refine DW.R' ?_|refine DW.W ?_|refine DW.W' ?_|(refine DW.known rfl ?_;(with_reducible first|apply DW.sx 2|apply DW.sxN 2);(iterate 2 (focus (simp only [ft,nm,Nat.reduceAdd,Nat.reduceBEq,List.getElem?_cons_zero,List.getElem?_cons_succ];exact rfl)));(focus (intro X V;simp only [ft,nm,Nat.reduceAdd,Nat.reduceBEq];(try (refine AP.Y ?_;dsimp only));(first|((with_reducible apply AP.k_any);refine AP.CB [(0,0)] 0 (wint_ac st m.client hst) ?_)|((with_reducible apply AP.k_any);refine AP.CB [(0,0)] 0 (wint_ac _ m.id h1) ?_)|((with_reducible apply AP.k_any);refine AP.CB [(0,0)] 0 (wbytes_ac _ m.body h2 hb) ?_)|fail);(try refine NX ?_);refine AP.nil ?_;(first|refine ⟨trivial,rfl,?_⟩|refine ⟨rfl,rfl,?_⟩);(repeat' (first|exact Mg.nil|apply Mg.keep rfl|apply Mg.take rfl));done));(focus (refine Exists.intro (fun _=>0) ?_;apply Exists.intro;(repeat' (first|exact Mg.nil|apply Mg.keep rfl|apply Mg.take rfl));done));(iterate 2 (focus (exact rfl))))|((fail_if_success refine DW.known rfl ?_);refine DW.G (fun hg=>?_) (fun hg=>?_))))<;>(try refine NX ?_))|(refine AP.N0 ?_;try clear hQ' Q')|((with_reducible apply CP.k_drw);refine cp_drwX fun Q' hQ'=>?_)|((with_reducible apply CP.k_drw1);refine cp_drawX ?_)|((with_reducible apply DW.k_nil);refine DW.nl ?_;first|(refine hQ' _ ?_;clear hQ' Q')|skip)|((with_reducible apply CP.k_reg);refine cp_regG fun Q' hQ'=>?_)|refine CP.W ?_|refine cp_cond rfl (fun hc=>?_) (fun hc=>?_)|(simp only [List.append_eq,List.cons_append,List.nil_append]))
  (refine RetQ.B [(0,0)] ?_;(try dsimp only [resV,List.getD_cons_succ,List.getD_cons_zero]);(exact ⟨rfl,rfl⟩))
end Go.Proofs.YtmgneincjfhaoaaGreat

namespace Go.Proofs.YtmgneincjfhaoaaGreat
set_option linter.unusedVariables false
set_option linter.unusedSimpArgs false
set_option maxHeartbeats 8000000
open Go.RowKit
set_option maxRecDepth 100000
theorem kput7_ac (st:Bool×List UInt8) (m:Msg) (hst:st.2.length≤65536) :
    AC Tryz.prog 171 [.bp 0 0 0,.ag (eG m)] [wB st] (fun v bs=>v=.tu []∧bs=[wB (putHave st m)]):=by
  have h1:=addS_len (st:=st) (b:=intS m.have_) hst
  refine AC.N Tryz.func171 Tryz.ntmps171 ?_
  intro X hρ hmks
  refine NX ?_
  repeat' (first|((first|((with_reducible apply AP.k_any);first|refine AP.S ?_)|((with_reducible apply AP.k_any);refine AP.CB [(0,0)] 0 (wint_ac st m.have_ hst) ?_)|((with_reducible apply AP.k_any);refine AP.CB [(0,0)] 0 (wint_ac _ m.done h1) ?_)|((with_reducible apply DW.k_any);first|refine DW.R ?_|refine DW.R' ?_|refine DW.W ?_|refine DW.W' ?_|(refine DW.known rfl ?_;(with_reducible first|apply DW.sx 2|apply DW.sxN 2);(iterate 2 (focus (simp only [ft,nm,Nat.reduceAdd,Nat.reduceBEq,List.getElem?_cons_zero,List.getElem?_cons_succ];exact rfl)));(focus (intro X V;simp only [ft,nm,Nat.reduceAdd,Nat.reduceBEq];(try (refine AP.Y ?_;dsimp only));(first|((with_reducible apply AP.k_any);refine AP.CB [(0,0)] 0 (wint_ac st m.have_ hst) ?_)|((with_reducible apply AP.k_any);refine AP.CB [(0,0)] 0 (wint_ac _ m.done h1) ?_)|fail);(try refine NX ?_);refine AP.nil ?_;(first|refine ⟨trivial,rfl,?_⟩|refine ⟨rfl,rfl,?_⟩);(repeat' (first|exact Mg.nil|apply Mg.keep rfl|apply Mg.take rfl));done));(focus (refine Exists.intro (fun _=>0) ?_;apply Exists.intro;(repeat' (first|exact Mg.nil|apply Mg.keep rfl|apply Mg.take rfl));done));(iterate 2 (focus (exact rfl))))|((fail_if_success refine DW.known rfl ?_);refine DW.G (fun hg=>?_) (fun hg=>?_))))<;>(try refine NX ?_))|(refine AP.N0 ?_;try clear hQ' Q')|((with_reducible apply CP.k_drw);refine cp_drwX fun Q' hQ'=>?_)|((with_reducible apply CP.k_drw1);refine cp_drawX ?_)|((with_reducible apply DW.k_nil);refine DW.nl ?_;first|(refine hQ' _ ?_;clear hQ' Q')|skip)|((with_reducible apply CP.k_reg);refine cp_regG fun Q' hQ'=>?_)|refine CP.W ?_|refine cp_cond rfl (fun hc=>?_) (fun hc=>?_)|(simp only [List.append_eq,List.cons_append,List.nil_append]))
  (refine RetQ.B [(0,0)] ?_;(try dsimp only [resV,List.getD_cons_succ,List.getD_cons_zero]);(exact ⟨rfl,rfl⟩))
theorem kput11_ac (st:Bool×List UInt8) (m:Msg) (hst:st.2.length≤65536) (hl:m.cfg.members.length≤100000000) :
    AC Tryz.prog 176 [.bp 0 0 0,.ag (eG m)] [wB st] (fun v bs=>v=.tu []∧bs=[wB (putC st m.cfg)]):=by
  refine AC.N Tryz.func176 Tryz.ntmps176 ?_
  intro X hρ hmks
  refine NX ?_
  repeat' (first|((first|((with_reducible apply AP.k_any);first|refine AP.S ?_)|((with_reducible apply AP.k_any);refine AP.CB [(0,0)] 0 (putConfig_ac st m.cfg hst hl) ?_))<;>(try refine NX ?_))|(refine AP.N0 ?_;try clear hQ' Q')|((with_reducible apply CP.k_reg);refine cp_regG fun Q' hQ'=>?_)|refine CP.W ?_|refine cp_cond rfl (fun hc=>?_) (fun hc=>?_)|(simp only [List.append_eq,List.cons_append,List.nil_append]))
  (refine RetQ.B [(0,0)] ?_;(try dsimp only [resV,List.getD_cons_succ,List.getD_cons_zero]);(exact ⟨rfl,rfl⟩))
theorem kput15_ac (st:Bool×List UInt8) (m:Msg) (hst:st.2.length≤65536) :
    AC Tryz.prog 182 [.bp 0 0 0,.ag (eG m)] [wB st] (fun v bs=>v=.tu []∧bs=[wB (putWhole st m)]):=by
  refine AC.N Tryz.func182 Tryz.ntmps182 ?_
  intro X hρ hmks
  refine NX ?_
  repeat' (first|((first|((with_reducible apply AP.k_any);first|refine AP.S ?_)|((with_reducible apply AP.k_any);refine AP.CB [(0,0)] 0 (wint_ac st m.since hst) ?_))<;>(try refine NX ?_))|(refine AP.N0 ?_;try clear hQ' Q')|((with_reducible apply CP.k_reg);refine cp_regG fun Q' hQ'=>?_)|refine CP.W ?_|refine cp_cond rfl (fun hc=>?_) (fun hc=>?_)|(simp only [List.append_eq,List.cons_append,List.nil_append]))
  (refine RetQ.B [(0,0)] ?_;(try dsimp only [resV,List.getD_cons_succ,List.getD_cons_zero]);(exact ⟨rfl,rfl⟩))
theorem foldR_len:∀ {l:List Entry} {st:Bool×List UInt8},st.2.length≤65536→(l.foldl putR st).2.length≤65536
  | [],_,h=>h
  | e :: l,st,h=>foldR_len (l:=l) (addS_len (addS_len (addS_len (addS_len (addS_len h)))))
theorem eput3_ac (st:Bool×List UInt8) (m:Msg) (hst:st.2.length≤65536) (hl:m.entries.length≤100000000) (hb:∀ e∈m.entries,e.body.length≤100000000) :
    AC Tryz.prog 202 [.bp 0 0 0,.ag (eG m)] [wB st] (fun v bs=>v=.tu []∧bs=[wB (putEnt st m)]):=by
  have h1:=addS_len (st:=st) (b:=intS m.upto) hst
  have h2:=addS_len (b:=intS m.frm) h1
  have h3:=addS_len (b:=intS m.entries.length) h2
  refine AC.N Tryz.func202 Tryz.ntmps202 ?_
  intro X hρ hmks
  refine NX ?_
  repeat' (first|((first|((with_reducible apply AP.k_any);first|refine AP.S ?_|refine AP.E ?_|refine AP.T ?_)|((with_reducible apply AP.k_any);refine AP.CB [(0,0)] 0 (wint_ac st m.upto hst) ?_)|((with_reducible apply AP.k_any);refine AP.CB [(0,0)] 0 (wint_ac _ m.frm h1) ?_)|((with_reducible apply AP.k_any);refine AP.CB [(0,0)] 0 (wint_ac _ (m.entries.length:Int) h2) ?_)|((with_reducible apply DW.k_any);first|refine DW.R ?_|refine DW.R' ?_|refine DW.W ?_|refine DW.W' ?_|(refine DW.known rfl ?_;(with_reducible first|apply DW.sx 2|apply DW.sxN 2);(iterate 2 (focus (simp only [ft,nm,Nat.reduceAdd,Nat.reduceBEq,List.getElem?_cons_zero,List.getElem?_cons_succ];exact rfl)));(focus (intro X V;simp only [ft,nm,Nat.reduceAdd,Nat.reduceBEq];(try (refine AP.Y ?_;dsimp only));(first|((with_reducible apply AP.k_any);refine AP.CB [(0,0)] 0 (wint_ac st m.upto hst) ?_)|((with_reducible apply AP.k_any);refine AP.CB [(0,0)] 0 (wint_ac _ m.frm h1) ?_)|((with_reducible apply AP.k_any);refine AP.CB [(0,0)] 0 (wint_ac _ (m.entries.length:Int) h2) ?_)|fail);(try refine NX ?_);refine AP.nil ?_;(first|refine ⟨trivial,rfl,?_⟩|refine ⟨rfl,rfl,?_⟩);(repeat' (first|exact Mg.nil|apply Mg.keep rfl|apply Mg.take rfl));done));(focus (refine Exists.intro (fun _=>0) ?_;apply Exists.intro;(repeat' (first|exact Mg.nil|apply Mg.keep rfl|apply Mg.take rfl));done));(iterate 2 (focus (exact rfl))))|((fail_if_success refine DW.known rfl ?_);refine DW.G (fun hg=>?_) (fun hg=>?_))))<;>(try refine NX ?_))|(refine AP.N0 ?_;try clear hQ' Q')|((with_reducible apply CP.k_drw);refine cp_drwX fun Q' hQ'=>?_)|((with_reducible apply CP.k_drw1);refine cp_drawX ?_)|((with_reducible apply DW.k_nil);refine DW.nl ?_;first|(refine hQ' _ ?_;clear hQ' Q')|skip)|((with_reducible apply CP.k_reg);refine cp_regG fun Q' hQ'=>?_)|refine CP.W ?_|refine cp_cond rfl (fun hc=>?_) (fun hc=>?_)|(simp only [List.append_eq,List.cons_append,List.nil_append]))
  refine CP.gh gh_slot ?_
  refine NX ?_
  generalize hS:addS (addS (addS st (intS m.upto)) (intS m.frm)) (intS m.entries.length)=S0 at h3
  have hput:putEnt st m=m.entries.foldl putR S0:=by rw [←hS];rfl
  rw [hput]
  refine cp_loopS [5,20,21,22,23,24,25,26,27] (fun a:Nat×Nat×Nat=>m.entries.length - a.1) (fun a=>a.1≤m.entries.length) (fun a=>[(20,I a.1),(18,es none none m.entries),(19,I m.entries.length)]) (fun a=>[(0,⟨0,.c tW [B true,B ((m.entries.take a.1).foldl putR S0).1,.hd 1 a.2.1]⟩),(1,⟨a.2.1,.r tU 1 (((m.entries.take a.1).foldl putR S0).2.map eB)⟩),(3,⟨a.2.2,.x⟩)]) (0,4,0) (Nat.zero_le _) (by exact Gh.W) ?_
  rintro ⟨k,u,v⟩ hk
  simp only [setT,deT,setB,List.set_cons_succ,List.set_cons_zero]
  dsimp only at hk
  by_cases hlt:k < m.entries.length
  · have hw:IntKind.i64.wrap ((k:Int) + 1)=((k + 1:Nat):Int):=wrap_i64 (by omega) (by omega)
    have hs:(m.entries.take (k + 1)).foldl putR S0=putR ((m.entries.take k).foldl putR S0) m.entries[k]:=by rw [List.take_succ_eq_append_getElem hlt,List.foldl_append];rfl
    have hput:=putRest_ac ((m.entries.take k).foldl putR S0) m.entries[k] (foldR_len h3) (hb _ (List.getElem_mem hlt))
    rw [←hs] at hput
    repeat' (first|((first|((with_reducible apply AP.k_any);first|refine AP.S ?_|refine AP.E ?_|refine AP.T ?_)|((with_reducible apply AP.k_any);refine AP.CB [(0,0)] 0 (hput) ?_)|((with_reducible apply DW.k_any);first|refine DW.R ?_|refine DW.R' ?_|refine DW.W ?_|refine DW.W' ?_|(refine DW.known rfl ?_;(with_reducible first|apply DW.sx 2|apply DW.sxN 2);(iterate 2 (focus (simp only [ft,nm,Nat.reduceAdd,Nat.reduceBEq,List.getElem?_cons_zero,List.getElem?_cons_succ];exact rfl)));(focus (intro X V;simp only [ft,nm,Nat.reduceAdd,Nat.reduceBEq];(try (refine AP.Y ?_;dsimp only));(first|((with_reducible apply AP.k_any);refine AP.CB [(0,0)] 0 (hput) ?_)|fail);(try refine NX ?_);refine AP.nil ?_;(first|refine ⟨trivial,rfl,?_⟩|refine ⟨rfl,rfl,?_⟩);(repeat' (first|exact Mg.nil|apply Mg.keep rfl|apply Mg.take rfl));done));(focus (refine Exists.intro (fun _=>0) ?_;apply Exists.intro;(repeat' (first|exact Mg.nil|apply Mg.keep rfl|apply Mg.take rfl));done));(iterate 2 (focus (exact rfl))))|((fail_if_success refine DW.known rfl ?_);refine DW.G (fun hg=>?_) (fun hg=>?_))))<;>(try refine NX ?_))|(refine AP.N0 ?_;try clear hQ' Q')|((with_reducible apply CP.k_drw);refine cp_drwX fun Q' hQ'=>?_)|((with_reducible apply CP.k_drw1);refine cp_drawX ?_)|((with_reducible apply DW.k_nil);refine DW.nl ?_;first|(refine hQ' _ ?_;clear hQ' Q')|skip)|((with_reducible apply CP.k_reg);refine cp_regG fun Q' hQ'=>?_)|refine CP.W ?_|refine cp_cond rfl (fun hc=>?_) (fun hc=>?_)|(simp only [List.append_eq,List.cons_append,List.nil_append]))
    · simp only [hw]
      exact ⟨(k + 1,u + 1,v + 1),by (dsimp only;omega),by (dsimp only;omega),by exact Gh.W⟩
    · exfalso;simp at *;omega
  · obtain rfl:k=m.entries.length:=by omega
    rw [List.take_length]
    repeat' (first|((first|((with_reducible apply AP.k_any);first|refine AP.S ?_|refine AP.E ?_|refine AP.T ?_)|((with_reducible apply DW.k_any);first|refine DW.R ?_|refine DW.R' ?_|refine DW.W ?_|refine DW.W' ?_|(refine DW.known rfl ?_;(with_reducible first|apply DW.sx 2|apply DW.sxN 2);(iterate 2 (focus (simp only [ft,nm,Nat.reduceAdd,Nat.reduceBEq,List.getElem?_cons_zero,List.getElem?_cons_succ];exact rfl)));(focus (intro X V;simp only [ft,nm,Nat.reduceAdd,Nat.reduceBEq];(try (refine AP.Y ?_;dsimp only));(first|fail);(try refine NX ?_);refine AP.nil ?_;(first|refine ⟨trivial,rfl,?_⟩|refine ⟨rfl,rfl,?_⟩);(repeat' (first|exact Mg.nil|apply Mg.keep rfl|apply Mg.take rfl));done));(focus (refine Exists.intro (fun _=>0) ?_;apply Exists.intro;(repeat' (first|exact Mg.nil|apply Mg.keep rfl|apply Mg.take rfl));done));(iterate 2 (focus (exact rfl))))|((fail_if_success refine DW.known rfl ?_);refine DW.G (fun hg=>?_) (fun hg=>?_))))<;>(try refine NX ?_))|(refine AP.N0 ?_;try clear hQ' Q')|((with_reducible apply CP.k_drw);refine cp_drwX fun Q' hQ'=>?_)|((with_reducible apply CP.k_drw1);refine cp_drawX ?_)|((with_reducible apply DW.k_nil);refine DW.nl ?_;first|(refine hQ' _ ?_;clear hQ' Q')|skip)|((with_reducible apply CP.k_reg);refine cp_regG fun Q' hQ'=>?_)|refine CP.W ?_|refine cp_cond rfl (fun hc=>?_) (fun hc=>?_)|(simp only [List.append_eq,List.cons_append,List.nil_append]))
    all_goals first
      | (exfalso;simp at *;done)
      | (exfalso;simp at *;omega)
      | (refine RetQ.B [(0,0)] ?_;(try dsimp only [resV,List.getD_cons_succ,List.getD_cons_zero]);(exact ⟨rfl,rfl⟩))
end Go.Proofs.YtmgneincjfhaoaaGreat

namespace Go.Proofs.YtmgneincjfhaoaaGreat
set_option linter.unusedVariables false
set_option linter.unusedSimpArgs false
set_option maxHeartbeats 8000000
open Go.RowKit
set_option maxRecDepth 100000
def restF (e:Entry):List UInt8:=numS [e.stamp,e.client,e.id] ++ (putS e.body.length 4 ++ e.body)
def memF (m:Member):List UInt8:=numS [m.node,m.since] ++ flagS m.whole
def configF (c:Config):List UInt8:=numS [c.epoch,c.members.length] ++ (c.members.map memF).flatten
theorem flagS_length (b:Bool):(flagS b).length=1:=by cases b<;>rfl
theorem memF_length (m:Member):(memF m).length=17:=by simp [memF,numS_length,flagS_length]
theorem restF_length (e:Entry):(restF e).length=28 + e.body.length:=by simp [restF,numS_length,putS_length];omega
theorem configF_length (c:Config):(configF c).length=16 + 17 * c.members.length:=by
  have:∀ l:List Member,((l.map memF).flatten).length=17 * l.length:=by
    intro l
    induction l with
    | nil=>rfl
    | cons a l ih=>simp only [List.map_cons,List.flatten_cons,List.length_append,memF_length,List.length_cons,ih];omega
  simp [configF,numS_length,this]
end Go.Proofs.YtmgneincjfhaoaaGreat

namespace Go.Proofs.YtmgneincjfhaoaaGreat
set_option linter.unusedVariables false
set_option linter.unusedSimpArgs false
open Go.RowKit
set_option maxRecDepth 100000
theorem addS_ok {a b:List UInt8} (h:a.length + b.length≤65536):addS (false,a) b=(false,a ++ b):=by
  simp only [addS]
  rw [if_neg (by simp;omega)]
theorem putM_ok {a:List UInt8} {m:Member} (h:a.length + 17≤65536):putM (false,a) m=(false,a ++ memF m):=by
  unfold putM
  rw [addS_ok (by rw [intS_length];omega),addS_ok (by rw [List.length_append,intS_length,intS_length];omega),addS_ok (by rw [List.length_append,List.length_append,intS_length,intS_length,flagS_length];omega)]
  simp [memF,numS]
theorem foldM_ok:∀ {l:List Member} {a:List UInt8},a.length + 17 * l.length≤65536→l.foldl putM (false,a)=(false,a ++ (l.map memF).flatten)
  | [],a,_=>by simp
  | m :: l,a,h=>by
    rw [List.length_cons] at h
    rw [List.foldl_cons,putM_ok (by omega),foldM_ok (by rw [List.length_append,memF_length];omega)]
    simp
theorem putC_ok {a:List UInt8} {c:Config} (h:a.length + 16 + 17 * c.members.length≤65536):putC (false,a) c=(false,a ++ configF c):=by
  unfold putC
  rw [addS_ok (by rw [intS_length];omega),addS_ok (by rw [List.length_append,intS_length,intS_length];omega),foldM_ok (by rw [List.length_append,List.length_append,intS_length,intS_length];omega)]
  simp [configF,numS]
theorem putR_ok {a:List UInt8} {e:Entry} (h:a.length + 28 + e.body.length≤65536):putR (false,a) e=(false,a ++ restF e):=by
  unfold putR
  rw [addS_ok (by rw [intS_length];omega),addS_ok (by simp only [List.length_append,intS_length];omega),addS_ok (by simp only [List.length_append,intS_length];omega),addS_ok (by simp only [List.length_append,intS_length,putS_length];omega),addS_ok (by simp only [List.length_append,intS_length,putS_length];omega)]
  simp [restF,numS]
end Go.Proofs.YtmgneincjfhaoaaGreat

namespace Go.Proofs.YtmgneincjfhaoaaGreat
set_option linter.unusedVariables false
set_option linter.unusedSimpArgs false
set_option maxHeartbeats 8000000
open Go.RowKit
set_option maxRecDepth 100000
def putMsg (st:Bool×List UInt8) (m:Msg):Bool×List UInt8:=match m.kind.toNat with
  | 1=>putAsk st m
  | 2=>putEnt st m
  | 3=>putHave st m
  | 4=>putC st m.cfg
  | 5=>putWhole st m
  | 6=>putAsk st m
  | _=>st
def askF (m:Msg):List UInt8:=numS [m.client,m.id] ++ (putS m.body.length 4 ++ m.body)
def entF (m:Msg):List UInt8:=numS [m.upto,m.frm,m.entries.length] ++ (m.entries.map restF).flatten
def fieldF (m:Msg):List UInt8:=match m.kind.toNat with
  | 1=>askF m
  | 2=>entF m
  | 3=>numS [m.have_,m.done]
  | 4=>configF m.cfg
  | 5=>numS [m.since]
  | 6=>askF m
  | _=>[]
def formM (m:Msg):List UInt8:=m.kind :: fieldF m
theorem foldR_ok:∀ {l:List Entry} {a:List UInt8},(∀ e∈l,e.body.length≤1024)→a.length + 2000 * l.length≤65536→l.foldl putR (false,a)=(false,a ++ (l.map restF).flatten)
  | [],a,_,_=>by simp
  | m :: l,a,hb,h=>by
    rw [List.length_cons] at h
    have:=hb m (by simp)
    rw [List.foldl_cons,putR_ok (by omega),foldR_ok (fun e he=>hb e (by simp [he])) (by rw [List.length_append,restF_length];omega)]
    simp
theorem allGE_all {p:Nat→Entry→Bool}:∀ {l:List Entry} {k:Nat},allGE p k l=true→∀ (i:Nat) (e:Entry),l[i]? = some e→p (k + i) e=true
  | [],_,_,_,_,h=>by simp at h
  | x :: l,k,h,0,e,he=>by
    simp only [allGE,Bool.and_eq_true] at h
    simp at he;subst he;exact h.1
  | x :: l,k,h,i + 1,e,he=>by
    simp only [allGE,Bool.and_eq_true] at h
    have:=allGE_all h.2 i e (by simpa using he)
    rwa [show k + 1 + i=k + (i + 1) by omega] at this
theorem mayEnt_body {m:Msg} (h:mayEnt m=true):m.entries.length≤4∧∀ e∈m.entries,e.body.length≤1024:=by
  simp only [mayEnt,Bool.and_eq_true,decide_eq_true_eq] at h
  refine ⟨h.1.2,fun e he=>?_⟩
  obtain ⟨i,hi⟩:=List.mem_iff_getElem?.1 he
  have:=allGE_all h.2 i e hi
  simp only [pEnt,mayE,Bool.and_eq_true,decide_eq_true_eq] at this
  exact this.1.2
theorem put_ok {m:Msg} (h:mayM m=true):putMsg (addS (false,[]) [m.kind]) m=(false,formM m):=by
  have h0:addS (false,[]) [m.kind]=(false,[m.kind]):=addS_ok (by simp)
  rw [h0]
  unfold mayM at h
  unfold putMsg formM fieldF
  have ask:mayAsk m=true→putAsk (false,[m.kind]) m=(false,m.kind :: askF m):=fun h=>by
    simp only [mayAsk,Bool.and_eq_true,decide_eq_true_eq] at h
    unfold putAsk
    rw [addS_ok (by rw [intS_length];simp),addS_ok (by simp only [List.length_append,intS_length];simp),addS_ok (by simp only [List.length_append,intS_length,putS_length];simp),addS_ok (by simp only [List.length_append,intS_length,putS_length];simp;omega)]
    simp [askF,numS]
  split at h
  · rename_i hk;(try simp only [hk]);simp only [Bool.and_eq_true] at h;exact ask h.1
  · rename_i hk;(try simp only [hk])
    simp only [Bool.and_eq_true] at h
    obtain ⟨h1,h2⟩:=mayEnt_body h.1
    unfold putEnt
    rw [addS_ok (by rw [intS_length];simp),addS_ok (by simp only [List.length_append,intS_length];simp),addS_ok (by simp only [List.length_append,intS_length];simp),foldR_ok h2 (by simp only [List.length_append,intS_length];simp;omega)]
    simp [entF,numS]
  · rename_i hk;(try simp only [hk])
    unfold putHave
    rw [addS_ok (by rw [intS_length];simp),addS_ok (by simp only [List.length_append,intS_length];simp)]
    simp [numS]
  · rename_i hk;(try simp only [hk])
    simp only [Bool.and_eq_true] at h
    have:=h.1
    simp only [mayCfg,Bool.and_eq_true,decide_eq_true_eq] at this
    rw [putC_ok (by simp;omega)]
    simp
  · rename_i hk;(try simp only [hk])
    unfold putWhole
    rw [addS_ok (by rw [intS_length];simp)]
    simp [numS]
  · rename_i hk;(try simp only [hk]);simp only [Bool.and_eq_true] at h;exact ask h.1
  · cases h
theorem formM_length {m:Msg} (h:mayM m=true):(formM m).length≤65536:=by
  have:=put_ok h
  have h1:(putMsg (addS (false,[]) [m.kind]) m).2.length≤65536:=by
    have h0:(addS (false,[]) [m.kind]).2.length≤65536:=addS_len (by simp)
    unfold putMsg
    split
    · exact addS_len (addS_len (addS_len (addS_len h0)))
    · exact foldR_len (addS_len (addS_len (addS_len h0)))
    · exact addS_len (addS_len h0)
    · unfold putC
      have:∀ (l:List Member) (st:Bool×List UInt8),st.2.length≤65536→(l.foldl putM st).2.length≤65536:=fun l=>by
        induction l with
        | nil=>intro st h;exact h
        | cons m l ih=>intro st h;exact ih _ (putM_len h)
      exact this _ _ (addS_len (addS_len h0))
    · exact addS_len h0
    · exact addS_len (addS_len (addS_len (addS_len h0)))
    · exact h0
  rw [this] at h1;exact h1
theorem wdoneO_ac (acc:List UInt8) (hst:acc.length≤65536) :
    AC Tryz.prog 102 [.bp 0 0 0] [wB (false,acc)] (fun v bs'=>v=.tu [bs (some tU) acc,I 0]∧bs'=[wD (false,acc)]):=by
  have h:=wcat_ac [acc] (by simp) (by simp;omega)
  refine AC.N Tryz.func102 Tryz.ntmps102 ?_
  intro X hρ hmks
  refine NX ?_
  refine CP.gh (gh_fz (b:=1) (u:=1) rfl rfl (by (repeat' (first|exact FzC.nil|apply FzC.cons|exact FzV.hd|apply FzV.ag|exact FzV.same))) (by (repeat' (first|exact FzB.nil|apply FzB.c|apply FzB.same|exact FzC.nil|apply FzC.cons|exact FzV.hd|apply FzV.ag|exact FzV.same)))) ?_
  simp only [ro_B]
  repeat' (first|((first|((with_reducible apply AP.k_any);first|refine AP.S ?_|(refine AP.Y ?_;dsimp only)|refine AP.G (fun hg=>?_) (fun hg=>?_)|(refine AP.V (fun c hnil=>?_);simp only [nz]))|((with_reducible apply AP.k_any);refine AP.C (h) ?_)|((with_reducible apply AP.k_any);refine AP.gh (gh_fz (b:=1) (u:=2) rfl rfl (by (repeat' (first|exact FzC.nil|apply FzC.cons|exact FzV.hd|apply FzV.ag|exact FzV.same))) (by (repeat' (first|exact FzB.nil|apply FzB.c|apply FzB.same|exact FzC.nil|apply FzC.cons|exact FzV.hd|apply FzV.ag|exact FzV.same)))) ?_;first|simp only [roE,roC,AV.ro,ro_B,ro_M,ro_E]|simp only [roE,roC,AV.ro,ro_B]))<;>(try refine NX ?_))|(refine AP.N0 ?_;try clear hQ' Q')|((with_reducible apply CP.k_reg);refine cp_regG fun Q' hQ'=>?_)|refine CP.W ?_|refine cp_cond rfl (fun hc=>?_) (fun hc=>?_)|(simp only [List.append_eq,List.cons_append,List.nil_append]))
  (refine RetQ.B [(0,0)] ?_;(try dsimp only [resV,List.getD_cons_succ,List.getD_cons_zero]);(exact ⟨by simp,rfl⟩))
def printS (m:Msg):List UInt8×Int:=if mayM m=true then (formM m,0) else ([],2)
theorem printG_ac (f1 f2 f3 f4:Nat) (m:Msg) (hs:m.small) (h:mayM m=true) (hof:AC Tryz.prog 82 [.ag (eG m)] [] (fun v bs=>v=.tu [.ag [fnv f1,fnv f2,fnv f3,fnv f4],B true]∧bs=[]))
    (hput:AC Tryz.prog f3 [.bp 0 0 0,.ag (eG m)] [wB (false,[m.kind])] (fun v bs=>v=.tu []∧bs=[wB (putMsg (addS (false,[]) [m.kind]) m)])) :
    AC Tryz.prog 57 [.ag (eG m)] [] (fun v bs'=>v=.tu [bs (some tU) (formM m),I 0]∧bs'=[]):=by
  obtain ⟨hb,he,hc,hb2⟩:=hs
  have hmay:=mayMsg_ac m he hc
  rw [h] at hmay
  have h0:addS (false,[]) [m.kind]=(false,[m.kind]):=addS_ok (by simp)
  have hby:=wbyte_ac (false,[]) m.kind (by simp)
  rw [h0] at hby
  have hp:=put_ok h
  rw [hp] at hput
  have hd:=wdoneO_ac (formM m) (formM_length h)
  refine AC.N Tryz.func57 Tryz.ntmps57 ?_
  intro X hρ hmks
  refine NX ?_
  repeat' (first|((first|((with_reducible apply AP.k_any);first|refine AP.S ?_)|((with_reducible apply AP.k_any);refine AP.C (hmay) ?_)|((with_reducible apply AP.k_any);refine AP.C (hof) ?_))<;>(try refine NX ?_))|(refine AP.N0 ?_;try clear hQ' Q')|((with_reducible apply CP.k_reg);refine cp_regG fun Q' hQ'=>?_)|refine CP.W ?_|refine cp_cond rfl (fun hc=>?_) (fun hc=>?_)|(simp only [List.append_eq,List.cons_append,List.nil_append]))
  refine CP.gh gh_slot ?_;refine NX ?_
  refine CP.gh gh_slot ?_;refine NX ?_
  refine CP.gh gh_slot ?_;refine NX ?_
  repeat' (first|((first|((with_reducible apply AP.k_any);first|refine AP.S ?_)|((with_reducible apply AP.k_any);refine AP.CB [] 1 (wnew_ac) ?_)|((with_reducible apply AP.k_any);refine AP.CB [(2,1)] 0 (hby) ?_)|((with_reducible apply AP.k_any);refine ap_callB 0 [(2,1)] rfl rfl (fn:=f3) rfl (hput) (by (repeat' (first|exact PasC.nil|apply PasC.nil|apply PasC.cons|apply PasV.leaf rfl|apply PasV.nl|apply PasV.bp rfl|apply PasV.vp rfl|apply PasV.pz|exact VsM.nil|apply VsM.cons rfl|apply PasV.lend rfl rfl rfl|apply PasV.lend rfl rfl (ro_B _)|apply PasV.lend rfl rfl (ro_M _)|apply PasV.lend rfl rfl (ro_E _ _)|apply PasV.lend rfl rfl (ro_I _)|apply PasV.lend rfl rfl (by (simp only [rn,List.map_cons,List.map_nil];first|done|rfl))|apply PasV.mv rfl|apply PasV.hk rfl|apply PasV.ag|apply PasV.fn|exact PasV.fs|apply PasV.any))) (by (repeat' (first|exact ClsC.nil|apply ClsC.nl|apply ClsC.leaf rfl|apply ClsC.hd rfl|apply ClsC.ob rfl|apply ClsC.mo rfl|apply ClsC.mp rfl|apply ClsC.hp rfl|exact Out.nil|apply Out.cons rfl|apply Out.r rfl|apply Out.f rfl|apply ClsC.fn|apply ClsC.fz rfl (ro_B _)|apply ClsC.fz rfl (ro_M _)|apply ClsC.fz rfl (ro_E _ _)|apply ClsC.fz rfl rfl))) rfl (by (repeat' (first|exact Bk.nil|apply Bk.cons rfl rfl rfl|apply Bk.r rfl))) (by (repeat' (first|exact RnV.leaf rfl|exact RnV.fs|exact RnC.nil|apply RnC.cons|apply RnV.ag|apply RnV.tu|apply RnV.fn|exact RnV.bp rfl))) rfl ?_)|((with_reducible apply AP.k_any);refine AP.CB [(2,1)] 0 (hd) ?_)|((with_reducible apply DW.k_any);first|refine DW.R ?_|refine DW.R' ?_|refine DW.W ?_|refine DW.W' ?_|(refine DW.known rfl ?_;(with_reducible first|apply DW.sx 2|apply DW.sxN 2);(iterate 2 (focus (simp only [ft,nm,Nat.reduceAdd,Nat.reduceBEq,List.getElem?_cons_zero,List.getElem?_cons_succ];exact rfl)));(focus (intro X V;simp only [ft,nm,Nat.reduceAdd,Nat.reduceBEq];(try (refine AP.Y ?_;dsimp only));(first|((with_reducible apply AP.k_any);refine AP.CB [] 1 (wnew_ac) ?_)|((with_reducible apply AP.k_any);refine AP.CB [(2,1)] 0 (hby) ?_)|((with_reducible apply AP.k_any);refine ap_callB 0 [(2,1)] rfl rfl (fn:=f3) rfl (hput) (by (repeat' (first|exact PasC.nil|apply PasC.nil|apply PasC.cons|apply PasV.leaf rfl|apply PasV.nl|apply PasV.bp rfl|apply PasV.vp rfl|apply PasV.pz|exact VsM.nil|apply VsM.cons rfl|apply PasV.lend rfl rfl rfl|apply PasV.lend rfl rfl (ro_B _)|apply PasV.lend rfl rfl (ro_M _)|apply PasV.lend rfl rfl (ro_E _ _)|apply PasV.lend rfl rfl (ro_I _)|apply PasV.lend rfl rfl (by (simp only [rn,List.map_cons,List.map_nil];first|done|rfl))|apply PasV.mv rfl|apply PasV.hk rfl|apply PasV.ag|apply PasV.fn|exact PasV.fs|apply PasV.any))) (by (repeat' (first|exact ClsC.nil|apply ClsC.nl|apply ClsC.leaf rfl|apply ClsC.hd rfl|apply ClsC.ob rfl|apply ClsC.mo rfl|apply ClsC.mp rfl|apply ClsC.hp rfl|exact Out.nil|apply Out.cons rfl|apply Out.r rfl|apply Out.f rfl|apply ClsC.fn|apply ClsC.fz rfl (ro_B _)|apply ClsC.fz rfl (ro_M _)|apply ClsC.fz rfl (ro_E _ _)|apply ClsC.fz rfl rfl))) rfl (by (repeat' (first|exact Bk.nil|apply Bk.cons rfl rfl rfl|apply Bk.r rfl))) (by (repeat' (first|exact RnV.leaf rfl|exact RnV.fs|exact RnC.nil|apply RnC.cons|apply RnV.ag|apply RnV.tu|apply RnV.fn|exact RnV.bp rfl))) rfl ?_)|((with_reducible apply AP.k_any);refine AP.CB [(2,1)] 0 (hd) ?_)|fail);(try refine NX ?_);refine AP.nil ?_;(first|refine ⟨trivial,rfl,?_⟩|refine ⟨rfl,rfl,?_⟩);(repeat' (first|exact Mg.nil|apply Mg.keep rfl|apply Mg.take rfl));done));(focus (refine Exists.intro (fun _=>0) ?_;apply Exists.intro;(repeat' (first|exact Mg.nil|apply Mg.keep rfl|apply Mg.take rfl));done));(iterate 2 (focus (exact rfl))))|((fail_if_success refine DW.known rfl ?_);refine DW.G (fun hg=>?_) (fun hg=>?_))))<;>(try refine NX ?_))|(refine AP.N0 ?_;try clear hQ' Q')|((with_reducible apply CP.k_drw);refine cp_drwX fun Q' hQ'=>?_)|((with_reducible apply CP.k_drw1);refine cp_drawX ?_)|((with_reducible apply DW.k_nil);refine DW.nl ?_;first|(refine hQ' _ ?_;clear hQ' Q')|skip)|((with_reducible apply CP.k_reg);refine cp_regG fun Q' hQ'=>?_)|refine CP.W ?_|refine cp_cond rfl (fun hc=>?_) (fun hc=>?_)|(simp only [List.append_eq,List.cons_append,List.nil_append]))
  (refine RetQ.B [] ?_;(try dsimp only [resV,List.getD_cons_succ,List.getD_cons_zero]);(exact ⟨rfl,rfl⟩))
theorem print_ac (m:Msg) (hs:m.small):AC Tryz.prog 57 [.ag (eG m)] [] (fun v bs'=>v=.tu [bs (some tU) (printS m).1,I (printS m).2]∧bs'=[]):=by
  by_cases h:mayM m=true
  · rw [printS,if_pos h]
    have h0:addS (false,[]) [m.kind]=(false,[m.kind]):=addS_ok (by simp)
    have hl:((false,[m.kind]):Bool×List UInt8).2.length≤65536:=by simp
    rcases kind_cases m.kind with hk|hk|hk|hk|hk|hk|hk
    · exact printG_ac _ _ _ _ m hs h (of1_ac m hk) (by rw [h0];simpa only [putMsg,hk] using kput3_ac _ m hl hs.1)
    · exact printG_ac _ _ _ _ m hs h (of2_ac m hk) (by rw [h0];simpa only [putMsg,hk] using eput3_ac _ m hl hs.2.1 hs.2.2.2)
    · exact printG_ac _ _ _ _ m hs h (of3_ac m hk) (by rw [h0];simpa only [putMsg,hk] using kput7_ac _ m hl)
    · exact printG_ac _ _ _ _ m hs h (of4_ac m hk) (by rw [h0];simpa only [putMsg,hk] using kput11_ac _ m hl hs.2.2.1)
    · exact printG_ac _ _ _ _ m hs h (of5_ac m hk) (by rw [h0];simpa only [putMsg,hk] using kput15_ac _ m hl)
    · exact printG_ac _ _ _ _ m hs h (of6_ac m hk) (by rw [h0];simpa only [putMsg,hk] using kput3_ac _ m hl hs.1)
    · rw [may_no m hk] at h;cases h
  · rw [printS,if_neg h]
    have hmay:=mayMsg_ac m hs.2.1 hs.2.2.1
    rw [show mayM m=false by simpa using h] at hmay
    refine AC.N Tryz.func57 Tryz.ntmps57 ?_
    intro X hρ hmks
    refine NX ?_
    repeat' (first|((first|((with_reducible apply AP.k_any);first|refine AP.S ?_)|((with_reducible apply AP.k_any);refine AP.C (hmay) ?_))<;>(try refine NX ?_))|(refine AP.N0 ?_;try clear hQ' Q')|((with_reducible apply CP.k_reg);refine cp_regG fun Q' hQ'=>?_)|refine CP.W ?_|refine cp_cond rfl (fun hc=>?_) (fun hc=>?_)|(simp only [List.append_eq,List.cons_append,List.nil_append]))
    (exact RetQ.A [] (by exact ⟨rfl,rfl⟩))
end Go.Proofs.YtmgneincjfhaoaaGreat

namespace Go.Proofs.YtmgneincjfhaoaaGreat
set_option linter.unusedVariables false
set_option linter.unusedSimpArgs false
set_option maxHeartbeats 8000000
open Go.RowKit
set_option maxRecDepth 100000
abbrev tMs:TypeId:=60
structure Mst where
  cfg:Config
  ends:Ends
abbrev msC (x:Mst):List AV:=[I x.cfg.epoch,ms none x.cfg.members,.ob tEn (enE x.ends)]
abbrev mB (x:Mst):Bx:=.c tMs (msC x)
/-- a sender's numbers are small -/
def Ends.fit (x:Ends) (n:Int):Prop:=∀ s,0≤got s x.sent 0∧got s x.sent 0≤n
theorem fit_send {x:Ends} {n:Int} (h:x.fit n) (to ep:Int) (b:List UInt8) (hn:0≤n):(x.send to ep b).2.fit (n + 1):=by
  intro s
  have h1:=h s
  have h2:=h (to,ep)
  unfold Ends.send
  split
  · show 0≤got s (puts (to,ep) x.sent _) 0∧got s (puts (to,ep) x.sent _) 0≤n + 1
    rw [got_puts]
    split<;>omega
  · exact ⟨h1.1,by show got s x.sent 0≤n + 1;omega⟩
theorem send_keep (x:Ends) (to ep:Int) (b:List UInt8):(x.send to ep b).2.root=x.root∧(x.send to ep b).2.who=x.who∧(x.send to ep b).2.boot=x.boot∧(x.send to ep b).2.wins=x.wins:=by
  unfold Ends.send;split<;>exact ⟨rfl,rfl,rfl,rfl⟩
theorem mnew_bad (root:List UInt8) (n:Int) (h:n < 1∨5 < n):AC Tryz.prog 8 [bs none root,I n] [] (fun v bs'=>v=.tu [.sc (.pointer none),I 2]∧bs'=[]):=by
  have h1:=cfirst_ac n
  rw [show cFirst n=(cfg0,2) from if_pos h] at h1
  refine AC.N Tryz.func8 Tryz.ntmps8 ?_
  intro X hρ hmks
  refine NX ?_
  refine CP.SL ?_
  refine W1 ?_
  (exact RetQ.A [] (by exact ⟨rfl,rfl⟩))
theorem mnew_ok (root:List UInt8) (n:Int) (hr:root.length≤100000000) (h:¬ (n < 1∨5 < n)):AC Tryz.prog 8 [bs none root,I n] [] (fun v bs'=>v=.tu [.bp 0 0 0,I 0]∧bs'=[mB ⟨⟨1,fm n.toNat⟩,⟨root,9,1,[],[]⟩⟩]):=by
  have h1:=cfirst_ac n
  rw [show cFirst n=(⟨1,fm n.toNat⟩,0) from if_neg h] at h1
  have h2:=lnew_ac root 9 1 hr
  dsimp only at h1
  generalize fm n.toNat=M at *
  refine AC.N Tryz.func8 Tryz.ntmps8 ?_
  intro X hρ hmks
  refine NX ?_
  refine CP.SL ?_
  refine CP.SL ?_
  refine CP.SL ?_
  refine CP.SL ?_
  refine CP.SL ?_
  refine CP.SL ?_
  repeat' (first|((first|((with_reducible apply AP.k_any);first|refine AP.ST ?_|(refine AP.Y ?_;dsimp only)|refine AP.G (fun hg=>?_) (fun hg=>?_)|(refine AP.V (fun c hnil=>?_);simp only [nz])|refine AP.PF ?_))<;>(try simp only [nq,Nat.reduceBEq,Nat.reduceAdd,Nat.reduceSub]))|refine CP.TN ?_|((with_reducible apply CP.k_reg);refine cp_regG fun Q' hQ'=>?_)|((with_reducible apply CP.k_cond);refine cp_cond rfl (fun hc=>?_) (fun hc=>?_))|(simp only [List.append_eq,List.cons_append,List.nil_append]))
  refine cp_drawX ?_
  iterate 2 (((with_reducible apply DW.k_any);refine DW.ST ?_)<;>(try simp only [nq,Nat.reduceBEq,Nat.reduceAdd,Nat.reduceSub]))
  refine DW.A 3 ?_
  simp only [nq,Nat.reduceBEq,Nat.reduceAdd,Nat.reduceSub]
  repeat' (first|((first|((with_reducible apply AP.k_any);first|refine AP.ST ?_|(refine AP.Y ?_;dsimp only)|refine AP.G (fun hg=>?_) (fun hg=>?_)|(refine AP.V (fun c hnil=>?_);simp only [nz])|refine AP.PF ?_)|((with_reducible apply DW.k_any);first|refine DW.ST ?_|((fail_if_success refine DW.known rfl ?_);refine DW.G (fun hg=>?_) (fun hg=>?_))))<;>(try simp only [nq,Nat.reduceBEq,Nat.reduceAdd,Nat.reduceSub]))|refine CP.TL ?_|((with_reducible apply CP.k_drw);refine cp_drwX fun Q' hQ'=>?_)|((with_reducible apply CP.k_reg);refine cp_regG fun Q' hQ'=>?_)|((with_reducible apply CP.k_cond);refine cp_cond rfl (fun hc=>?_) (fun hc=>?_))|(simp only [List.append_eq,List.cons_append,List.nil_append]))
  (exact RetQ.A [(4,1)] (by exact ⟨rfl,rfl⟩))
theorem mnone_ac (x:Mst):AC Tryz.prog 35 [.bp 0 0 0] [mB x] (fun v bs'=>v=B false∧bs'=[mB x]):=by
  refine AC.N Tryz.func35 Tryz.ntmps35 ?_
  intro X hρ hmks
  refine NX ?_
  refine W1 ?_
  (exact RetQ.A [(0,0)] (by exact ⟨rfl,rfl⟩))
theorem mconfig_ac (x:Mst) (hl:x.cfg.members.length≤100000000):AC Tryz.prog 21 [.bp 0 0 0] [mB x] (fun v bs'=>v=.ag (eC none x.cfg)∧bs'=[mB x]):=by
  have h1:=mnone_ac x
  have h2:=(mclone_ac x.cfg.members hl).ro (r2:=ms none x.cfg.members) (by simp only [AV.ro,ro_M])
  refine AC.N Tryz.func21 Tryz.ntmps21 ?_
  intro X hρ hmks
  refine NX ?_
  refine CP.SL ?_
  refine CP.SL ?_
  refine W1 ?_
  (exact RetQ.A [(0,0)] (by exact ⟨rfl,rfl⟩))
theorem everybody_ac:AC Tryz.prog 37 [] [] (fun v bs'=>v=.sl none 1 [[I 0],[I 1],[I 2],[I 3],[I 4],[I 8]]∧bs'=[]):=by
  have e0:decide ((0:Int) < 5)=true:=rfl
  have e1:decide ((1:Int) < 5)=true:=rfl
  have e2:decide ((2:Int) < 5)=true:=rfl
  have e3:decide ((3:Int) < 5)=true:=rfl
  have e4:decide ((4:Int) < 5)=true:=rfl
  have e5:decide ((5:Int) < 5)=false:=rfl
  have q0:IntKind.i64.wrap (0 + 1)=1:=rfl
  have q1:IntKind.i64.wrap (1 + 1)=2:=rfl
  have q2:IntKind.i64.wrap (2 + 1)=3:=rfl
  have q3:IntKind.i64.wrap (3 + 1)=4:=rfl
  have q4:IntKind.i64.wrap (4 + 1)=5:=rfl
  have sm:=And.intro e0 (And.intro e1 (And.intro e2 (And.intro e3 (And.intro e4 (And.intro e5 (And.intro q0 (And.intro q1 (And.intro q2 (And.intro q3 (And.intro q4 (And.intro (@List.nil_append (List AV)) (@List.cons_append (List AV)))))))))))))
  refine AC.N Tryz.func37 Tryz.ntmps37 ?_
  intro X hρ hmks
  refine NX ?_
  refine W1 ?_
  refine CP.gh (gh_nil (t:=1) (e:=3) (k:=1) rfl) ?_
  refine NX ?_
  refine cp_rounds 6 ?_
  refine W1 ?_
  (exact RetQ.Fz [] (by exact ⟨rfl,rfl⟩))
end Go.Proofs.YtmgneincjfhaoaaGreat

namespace Go.Proofs.YtmgneincjfhaoaaGreat
set_option linter.unusedVariables false
set_option linter.unusedSimpArgs false
set_option maxHeartbeats 8000000
open Go.RowKit
set_option maxRecDepth 100000
abbrev tBy:TypeId:=22
abbrev tBB:TypeId:=37
def eachS (body:List UInt8) (ep:Int) (p:List (List UInt8)×Ends) (to:Int):List (List UInt8)×Ends:=(if (p.2.send to ep body).1.2=0 then p.1 ++ [(p.2.send to ep body).1.1] else p.1,(p.2.send to ep body).2)
def cfgMsg (c:Config):Msg:={ msg0 with kind:=4,cfg:=c }
def tellS (x:Mst) (who:List Int):List (List UInt8)×Mst:=
  if mayM (cfgMsg x.cfg)=true then ((who.foldl (eachS (formM (cfgMsg x.cfg)) x.cfg.epoch) ([],x.ends)).1,{ x with ends:=(who.foldl (eachS (formM (cfgMsg x.cfg)) x.cfg.epoch) ([],x.ends)).2 }) else ([],x)
theorem cfgMsg_form (c:Config):formM (cfgMsg c)=4 :: configF c:=rfl
theorem cfgMsg_may {c:Config} (h:mayM (cfgMsg c)=true):mayCfg c=true:=by
  have e:mayM (cfgMsg c)=(mayCfg c && noneM (bareCfg (cfgMsg c))):=rfl
  rw [e,Bool.and_eq_true] at h
  exact h.1
theorem cfgMsg_len {c:Config} (h:mayM (cfgMsg c)=true):(formM (cfgMsg c)).length≤200:=by
  have h1:=cfgMsg_may h
  simp only [mayCfg,Bool.and_eq_true,decide_eq_true_eq] at h1
  rw [cfgMsg_form,List.length_cons,configF_length]
  omega
theorem meach_ac (x:Mst) (to:Int) (body:List UInt8) (l:List (List UInt8)) (hr:x.ends.root.length≤10000) (hb:body.length≤60000) (hf:x.ends.fit 1000000000) (hl:l.length≤1000000) :
    AC Tryz.prog 60 [I to,.vp 0 0 0,.bp 1 0 0,.bp 2 0 0] [mB x,.c tBy [bs none body],.c tBB [bss (some tB) l]]
      (fun v bs'=>v=.tu []∧bs'=[mB { x with ends:=(eachS body x.cfg.epoch (l,x.ends) to).2 },.c tBy [bs none body],.c tBB [bss (some tB) (eachS body x.cfg.epoch (l,x.ends) to).1]]):=by
  have h1:=send_ac x.ends to x.cfg.epoch body hr hb (hf (to,x.cfg.epoch))
  unfold eachS
  dsimp only
  generalize x.ends.send to x.cfg.epoch body=R at *
  obtain ⟨⟨b,e⟩,E'⟩:=R
  dsimp only at *
  have hl1:(l.map eS).length + 1≤1000000000:=by rw [List.length_map];omega
  have hm:(l ++ [b]).map eS=l.map eS ++ [[bs none b]]:=by rw [List.map_append];rfl
  by_cases he:e=0
  · subst he
    rw [if_pos rfl]
    have sm:((0:Int) == 0)=true:=rfl
    simp only [bss,hm]
    refine AC.N Tryz.func60 Tryz.ntmps60 ?_
    intro X hρ hmks
    refine NX ?_
    simp only [ov_vp]
    refine CP.SL ?_
    refine V1 ?_
    (exact RetQ.A [(0,0),(1,0),(2,0)] (by exact ⟨rfl,rfl⟩))
  · rw [if_neg he]
    have sm:(e == 0)=false:=by simpa using he
    refine AC.N Tryz.func60 Tryz.ntmps60 ?_
    intro X hρ hmks
    refine NX ?_
    simp only [ov_vp]
    refine CP.SL ?_
    refine V1 ?_
    (exact RetQ.A [(0,0),(1,0),(2,0)] (by exact ⟨rfl,rfl⟩))
end Go.Proofs.YtmgneincjfhaoaaGreat

namespace Go.Proofs.YtmgneincjfhaoaaGreat
set_option linter.unusedVariables false
set_option linter.unusedSimpArgs false
set_option maxHeartbeats 8000000
open Go.RowKit
set_option maxRecDepth 100000
theorem each_keep (body:List UInt8) (ep:Int) (p:List (List UInt8)×Ends) (to:Int):(eachS body ep p to).2.root=p.2.root∧(eachS body ep p to).1.length≤p.1.length + 1:=by
  unfold eachS
  refine ⟨(send_keep _ _ _ _).1,?_⟩
  dsimp only
  split<;>simp
theorem fold_keep (body:List UInt8) (ep:Int):∀ (who:List Int) (p:List (List UInt8)×Ends) (n:Int),0≤n→p.2.fit n→(who.foldl (eachS body ep) p).2.fit (n + who.length)∧(who.foldl (eachS body ep) p).2.root=p.2.root∧(who.foldl (eachS body ep) p).1.length≤p.1.length + who.length
  | [],p,n,_,h=>⟨by simpa using h,rfl,by simp⟩
  | to :: who,p,n,hn,h=>by
    obtain ⟨a1,a2,a3⟩:=fold_keep body ep who (eachS body ep p to) (n + 1) (by omega) (fit_send h to ep body hn)
    obtain ⟨b1,b2⟩:=each_keep body ep p to
    rw [List.foldl_cons]
    refine ⟨?_,a2.trans b1,by simp only [List.length_cons];omega⟩
    rw [show n + ((to :: who).length:Int)=n + 1 + (who.length:Int) by simp only [List.length_cons];omega]
    exact a1
theorem cfgMsg_small {c:Config} (h:c.members.length≤100000000):(cfgMsg c).small:=⟨Nat.zero_le _,Nat.zero_le _,h,fun e he=>by cases he⟩
theorem mtell_no (x:Mst) (who:List Int) (hc:x.cfg.members.length≤100000000) (hm:mayM (cfgMsg x.cfg)=false) :
    AC Tryz.prog 36 [.bp 0 0 0,.sl none 1 (who.map eI)] [mB x] (fun v bs'=>v=bss none (tellS x who).1∧bs'=[mB (tellS x who).2]):=by
  have h1:=mconfig_ac x hc
  have h2:=(print_ac (cfgMsg x.cfg) (cfgMsg_small hc)).ro (r2:=.tu [bs none (printS (cfgMsg x.cfg)).1,I (printS (cfgMsg x.cfg)).2]) (by simp only [AV.ro,roC,ro_B])
  have e:tellS x who=([],x):=if_neg (by rw [hm];simp)
  have e2:printS (cfgMsg x.cfg)=([],2):=if_neg (by rw [hm];simp)
  rw [e]
  rw [e2] at h2
  refine AC.N Tryz.func36 Tryz.ntmps36 ?_
  intro X hρ hmks
  refine NX ?_
  refine CP.SL ?_
  refine CP.SL ?_
  refine V1 ?_
  (exact RetQ.A [(0,0)] (by exact ⟨rfl,rfl⟩))
theorem mtell_ac (x:Mst) (who:List Int) (hc:x.cfg.members.length≤100000000) (hr:x.ends.root.length≤10000) (hf:x.ends.fit 1000000) (hw:who.length≤1000) :
    AC Tryz.prog 36 [.bp 0 0 0,.sl none 1 (who.map eI)] [mB x] (fun v bs'=>v=bss none (tellS x who).1∧bs'=[mB (tellS x who).2]):=by
  cases hm:mayM (cfgMsg x.cfg) with
  | false=>exact mtell_no x who hc hm
  | true=>
  have h1:=mconfig_ac x hc
  have h2:=(print_ac (cfgMsg x.cfg) (cfgMsg_small hc)).ro (r2:=.tu [bs none (printS (cfgMsg x.cfg)).1,I (printS (cfgMsg x.cfg)).2]) (by simp only [AV.ro,roC,ro_B])
  have e2:printS (cfgMsg x.cfg)=(formM (cfgMsg x.cfg),0):=if_pos hm
  rw [e2] at h2
  have hb:(formM (cfgMsg x.cfg)).length≤60000:=Nat.le_trans (cfgMsg_len hm) (by omega)
  have e:tellS x who=((who.foldl (eachS (formM (cfgMsg x.cfg)) x.cfg.epoch) ([],x.ends)).1,{ x with ends:=(who.foldl (eachS (formM (cfgMsg x.cfg)) x.cfg.epoch) ([],x.ends)).2 }):=if_pos hm
  rw [e]
  clear e hm e2
  generalize formM (cfgMsg x.cfg)=body at *
  obtain ⟨⟨ep,M⟩,E⟩:=x
  dsimp only at *
  refine AC.N Tryz.func36 Tryz.ntmps36 ?_
  intro X hρ hmks
  refine NX ?_
  refine CP.SL ?_
  refine CP.SL ?_
  refine V1 ?_
  refine CP.gh (gh_vps 4 rfl) ?_
  simp only [vpl,vpv,nx,Nat.reduceAdd,Nat.reduceSub,Nat.reduceBEq,BEq.rfl,Bool.and_true,Bool.and_false,Bool.and_self,Bool.false_and]
  refine CP.gh (gh_nilc (j:=6) (u:=1) (off:=0) (e:=tB) (k:=1) rfl rfl) ?_
  refine NX ?_
  refine cp_loopS [10,23,24,25,26,27,28,29,30] (fun a:Nat×List (List UInt8)×Ends=>who.length - a.1) (fun a=>a.1≤who.length∧(who.take a.1).foldl (eachS body ep) ([],E)=(a.2.1,a.2.2)) (fun a=>[(23,I a.1)])
    (fun a=>[(0,⟨0,.c tMs [I ep,ms none M,.bp 3 (a.1 + 2) 0]⟩),(1,⟨a.1 + 2,.m (keyN a.2.2.sent) (rowN a.2.2.sent) none none⟩),(2,⟨a.1 + 2,.m (keyW a.2.2.wins) (rowW a.2.2.wins) none none⟩),(3,⟨a.1 + 2,.c tEn [B true,bs none a.2.2.root,I a.2.2.who,I a.2.2.boot,.hd 1 (a.1 + 2),.hd 2 (a.1 + 2)]⟩),(4,⟨a.1 + 2,.r tB 1 (a.2.1.map eS)⟩),(6,⟨1,.c tBB [.hd 4 (a.1 + 2)]⟩)]) (0,[],E) ⟨Nat.zero_le _,rfl⟩ (by exact Gh.W) ?_
  rintro ⟨k,l,E'⟩ ⟨hk,he⟩
  simp only [setT,deT,setB,List.set_cons_succ,List.set_cons_zero]
  dsimp only at hk he
  clear h1 h2
  obtain ⟨f1,f2,f3⟩:=fold_keep body ep (who.take k) ([],E) 1000000 (by omega) hf
  rw [he] at f1 f2 f3
  dsimp only at f1 f2 f3
  rw [List.length_take] at f1 f3
  by_cases hlt:k < who.length
  · have q1:decide ((k:Int) < (who.length:Int))=true:=by simp;omega
    have q2:IntKind.i64.wrap ((k:Int) + 1)=((k + 1:Nat):Int):=wrap_i64 (by omega) (by omega)
    have hrw:(who.map eI)[k]? = some [I who[k]]:=by rw [List.getElem?_map,List.getElem?_eq_getElem hlt];rfl
    have h3:=meach_ac ⟨⟨ep,M⟩,E'⟩ who[k] body l (by dsimp only;rw [f2];exact hr) hb (fun s=>by have:=f1 s;dsimp only;omega) (by simp at f3;omega)
    have he2:(who.take (k + 1)).foldl (eachS body ep) ([],E)=eachS body ep (l,E') who[k]:=by
      rw [List.take_succ_eq_append_getElem hlt,List.foldl_append,he];rfl
    clear he f1 f2 f3
    dsimp only at h3
    generalize eachS body ep (l,E') who[k]=R at *
    obtain ⟨l2,E2⟩:=R
    generalize who[k]=to at *
    have sm:=And.intro q1 q2
    refine V1 ?_
    exact ⟨(k + 1,l2,E2),by (dsimp only;omega),⟨by (dsimp only;omega),he2⟩,by exact Gh.W⟩
  · obtain rfl:k=who.length:=by omega
    have sm:=decide_eq_false (show ¬ ((who.length:Int) < (who.length:Int)) by omega)
    rw [List.take_length] at he
    rw [he]
    refine CP.gh (gh_fzS (b:=4) rfl) ?_
    simp only [ro_S,nx,q4,rn,fq,Nat.mul_one,Bool.and_true,Bool.and_false,Nat.reduceBEq,Nat.reduceAdd,Nat.reduceSub,BEq.rfl]
    refine V1 ?_
    (exact RetQ.A [(0,0)] (by exact ⟨rfl,rfl⟩))
end Go.Proofs.YtmgneincjfhaoaaGreat

namespace Go.Proofs.YtmgneincjfhaoaaGreat
set_option linter.unusedVariables false
set_option linter.unusedSimpArgs false
set_option maxHeartbeats 8000000
open Go.RowKit
set_option maxRecDepth 100000
theorem intR_len {st:Int×List UInt8} {k:Nat} (h:st.2.length≤k):(intR st).2.2.length≤k:=takeS_len h
theorem flagR_len {st:Int×List UInt8} {k:Nat} (h:st.2.length≤k):(flagR st).2.2.length≤k:=takeS_len h
theorem byteR_len {st:Int×List UInt8} {k:Nat} (h:st.2.length≤k):(byteR st).2.2.length≤k:=takeS_len h
theorem bytesR_len {st:Int×List UInt8} {k:Nat} (h:st.2.length≤k):(bytesR st).2.2.length≤k:=takeS_len (takeS_len h)
theorem countR_len {m:Int} {st:Int×List UInt8} {k:Nat} (h:st.2.length≤k):(countR m st).2.2.length≤k:=takeS_len h
def restR (pos:Int) (st:Int×List UInt8):Entry×(Int×List UInt8):=
  (⟨pos,(intR st).1,(intR (intR st).2).1,(intR (intR (intR st).2).2).1,(bytesR (intR (intR (intR st).2).2).2).1⟩,(bytesR (intR (intR (intR st).2).2).2).2)
def memR (st:Int×List UInt8):Member×(Int×List UInt8):=(⟨(intR st).1,(intR (intR st).2).1,(flagR (intR (intR st).2).2).1⟩,(flagR (intR (intR st).2).2).2)
def memsR:Nat→(Int×List UInt8)→List Member×(Int×List UInt8)
  | 0,st=>([],st)
  | n + 1,st=>((memR st).1 :: (memsR n (memR st).2).1,(memsR n (memR st).2).2)
def configR (st:Int×List UInt8):Config×(Int×List UInt8):=
  (⟨(intR st).1,(memsR (countR 5 (intR st).2).1.toNat (countR 5 (intR st).2).2).1⟩,(memsR (countR 5 (intR st).2).1.toNat (countR 5 (intR st).2).2).2)
theorem restR_len {p:Int} {st:Int×List UInt8} {k:Nat} (h:st.2.length≤k):(restR p st).2.2.length≤k:=bytesR_len (intR_len (intR_len (intR_len h)))
theorem memR_len {st:Int×List UInt8} {k:Nat} (h:st.2.length≤k):(memR st).2.2.length≤k:=flagR_len (intR_len (intR_len h))
theorem memsR_len {k:Nat}:∀ {n:Nat} {st:Int×List UInt8},st.2.length≤k→(memsR n st).2.2.length≤k
  | 0,_,h=>h
  | n + 1,st,h=>memsR_len (n:=n) (st:=(memR st).2) (memR_len h)
theorem memsR_snoc:∀ (n:Nat) (st:Int×List UInt8),(memsR (n + 1) st).1=(memsR n st).1 ++ [(memR (memsR n st).2).1]∧(memsR (n + 1) st).2=(memR (memsR n st).2).2
  | 0,st=>⟨rfl,rfl⟩
  | n + 1,st=>by
    have h:=memsR_snoc n (memR st).2
    exact ⟨by show (memR st).1 :: (memsR (n + 1) (memR st).2).1=_;rw [h.1];rfl,h.2⟩
theorem memsR_fst_len:∀ (n:Nat) (st:Int×List UInt8),(memsR n st).1.length=n
  | 0,_=>rfl
  | n + 1,st=>by show (_ :: _).length=_;rw [List.length_cons,memsR_fst_len n]
theorem countR_le {m:Int} {st:Int×List UInt8} (hm:0≤m):0≤(countR m st).1∧(countR m st).1≤m:=by
  unfold countR takeS
  split
  · exact ⟨Int.le_refl _,hm⟩
  · split
    · exact ⟨Int.le_refl _,hm⟩
    · split
      · rename_i h
        simp [countG] at h
        exact ⟨h.1.1,h.1.2⟩
      · exact ⟨Int.le_refl _,hm⟩
theorem takeRest_ac (pos:Int) (st:Int×List UInt8) (hst:st.2.length≤100000000) :
    AC Tryz.prog 206 [.bp 0 0 0,I pos] [rB st] (fun v bs=>v=.ag (eE none (restR pos st).1)∧bs=[rB (restR pos st).2]):=by
  have h1:=intR_len hst
  have h2:=intR_len h1
  have h3:=intR_len h2
  refine AC.N Tryz.func206 Tryz.ntmps206 ?_
  intro X hρ hmks
  refine NX ?_
  repeat' (first|((first|((with_reducible apply AP.k_any);first|refine AP.S ?_)|((with_reducible apply AP.k_any);refine AP.CB [(0,0)] 0 (rbytes_ac (intR (intR (intR st).2).2).2 h3) ?_)|((with_reducible apply AP.k_any);refine AP.CB [(0,0)] 0 (rint_ac (intR (intR st).2).2 h2) ?_)|((with_reducible apply AP.k_any);refine AP.CB [(0,0)] 0 (rint_ac (intR st).2 h1) ?_)|((with_reducible apply AP.k_any);refine AP.CB [(0,0)] 0 (rint_ac st hst) ?_))<;>(try refine NX ?_))|(refine AP.N0 ?_;try clear hQ' Q')|((with_reducible apply CP.k_reg);refine cp_regG fun Q' hQ'=>?_)|refine CP.W ?_|refine cp_cond rfl (fun hc=>?_) (fun hc=>?_)|(simp only [List.append_eq,List.cons_append,List.nil_append]))
  (exact RetQ.A [(0,0)] (by exact ⟨rfl,rfl⟩))
theorem takeConfig_ac (st:Int×List UInt8) (hst:st.2.length≤100000000) :
    AC Tryz.prog 179 [.bp 0 0 0] [rB st] (fun v bs=>v=.ag (eC none (configR st).1)∧bs=[rB (configR st).2]):=by
  have h1:=intR_len hst
  have h2:=countR_len (m:=5) h1
  obtain ⟨hc0,hc5⟩:=countR_le (m:=5) (st:=(intR st).2) (by omega)
  refine AC.N Tryz.func179 Tryz.ntmps179 ?_
  intro X hρ hmks
  refine NX ?_
  repeat' (first|((first|((with_reducible apply AP.k_any);first|refine AP.S ?_)|((with_reducible apply AP.k_any);refine AP.CB [(0,0)] 0 (rint_ac st hst) ?_)|((with_reducible apply AP.k_any);refine AP.CB [(0,0)] 0 (rcount_ac 5 _ h1) ?_))<;>(try refine NX ?_))|(refine AP.N0 ?_;try clear hQ' Q')|((with_reducible apply CP.k_reg);refine cp_regG fun Q' hQ'=>?_)|refine CP.W ?_|refine cp_cond rfl (fun hc=>?_) (fun hc=>?_)|(simp only [List.append_eq,List.cons_append,List.nil_append]))
  refine CP.gh (gh_nilc (j:=2) (u:=1) (off:=1) (e:=tM) (k:=3) rfl rfl) ?_
  refine NX ?_
  refine CP.gh gh_slot ?_
  refine NX ?_
  have h0:(configR st)=(⟨(intR st).1,(memsR (countR 5 (intR st).2).1.toNat (countR 5 (intR st).2).2).1⟩,(memsR (countR 5 (intR st).2).1.toNat (countR 5 (intR st).2).2).2):=rfl
  rw [h0]
  clear h0
  obtain ⟨N,hN⟩:∃ N:Nat,(countR 5 (intR st).2).1=N:=⟨(countR 5 (intR st).2).1.toNat,by omega⟩
  rw [hN] at hc5 ⊢
  rw [Int.toNat_natCast]
  generalize (countR 5 (intR st).2).2=S0 at h2 ⊢
  refine cp_loopS [9,10,11,12,13,14,15,16,17,18,19,20,21,22,23] (fun a:Nat×Nat×Nat=>N - a.1) (fun a=>a.1≤N) (fun a=>[(9,I a.1)]) (fun a=>[(0,⟨0,rB (memsR a.1 S0).2⟩),(2,⟨1,.c 48 [I (intR st).1,.hd 3 a.2.1]⟩),(3,⟨a.2.1,.r tM 3 ((memsR a.1 S0).1.map eM)⟩),(4,⟨a.2.2,.x⟩)]) (0,1,0) (Nat.zero_le _) (by exact Gh.W) ?_
  rintro ⟨k,u,v⟩ hk
  simp only [setT,deT,setB,List.set_cons_succ,List.set_cons_zero]
  dsimp only at hk
  have hS:=memsR_len (n:=k) h2
  have hL:=memsR_fst_len k S0
  have hs1:=(memsR_snoc k S0).1
  have hs2:=(memsR_snoc k S0).2
  by_cases hlt:k < N
  · have hw:IntKind.i64.wrap ((k:Int) + 1)=((k + 1:Nat):Int):=wrap_i64 (by omega) (by omega)
    generalize hms:memsR k S0=ms at hS hL hs1 hs2 ⊢
    obtain ⟨ml,S⟩:=ms
    dsimp only at hS hL hs1 hs2 ⊢
    have g1:=intR_len hS
    have g2:=intR_len g1
    have hlen:(ml.map eM).length + 1≤1000000000:=by rw [List.length_map];omega
    repeat' (first|((first|((with_reducible apply AP.k_any);first|refine AP.S ?_))<;>(try refine NX ?_))|(refine AP.N0 ?_;try clear hQ' Q')|((with_reducible apply CP.k_reg);refine cp_regG fun Q' hQ'=>?_)|refine CP.W ?_|refine cp_cond rfl (fun hc=>?_) (fun hc=>?_)|(simp only [List.append_eq,List.cons_append,List.nil_append]))
    · refine cp_drawI (fun zs zb=>⟨setT zs.t [(11,cond (zb.getD 0 false) (.bp 2 1 1) (.de)),(12,cond (zb.getD 1 false) (.hd 3 u) (.de)),(13,cond (zb.getD 2 false) (.bp 0 0 0) (.de)),(14,cond (zb.getD 3 false) (I (intR S).1) (.de)),(15,cond (zb.getD 4 false) (.bp 0 0 0) (.de)),(16,cond (zb.getD 5 false) (I (intR (intR S).2).1) (.de)),(17,cond (zb.getD 6 false) (.bp 0 0 0) (.de)),(18,cond (zb.getD 7 false) (B (flagR (intR (intR S).2).2).1) (.de)),(19,cond (zb.getD 8 false) (.ag (eM (memR S).1)) (.de)),(20,cond (zb.getD 9 false) (.hd 4 (v + 1)) (.de)),(21,cond (zb.getD 10 false) (.hd 3 (u + 1)) (.de)),(22,cond (zb.getD 11 false) (.bp 2 1 1) (.de))],((((zs.b.set 0 (cond (zb.getD 7 false) (⟨0,rB (memR S).2⟩) (cond (zb.getD 5 false) (⟨0,rB (intR (intR S).2).2⟩) (cond (zb.getD 3 false) (⟨0,rB (intR S).2⟩) (zs.b.getD 0 ⟨0,.x⟩))))).set 2 (cond (zb.getD 12 false) (⟨1,.c 48 [I (intR st).1,.hd 3 (u + 1)]⟩) (zs.b.getD 2 ⟨0,.x⟩))).set 3 (cond (zb.getD 10 false) (⟨u + 1,.r tM 3 (ml.map eM ++ [eM (memR S).1])⟩) (zs.b.getD 3 ⟨0,.x⟩))).set 4 (cond (zb.getD 10 false) (⟨v + 1,.x⟩) (cond (zb.getD 9 false) (⟨v + 1,.r tM 3 [eM (memR S).1]⟩) (zs.b.getD 4 ⟨0,.x⟩))))⟩) (by kernel_rfl) (by kernel_rfl) (by kernel_rfl) ?_ ?_
      rotate_left
      simp only [cond_true,cond_false,setT,List.set_cons_succ,List.set_cons_zero,List.getD_cons_succ,List.getD_cons_zero,List.set_cons_succ,List.length_cons,List.length_nil,List.replicate_succ,List.replicate_zero,Nat.reduceAdd]
      rotate_left
      · intro b hb' hcl
        obtain ⟨l0,b0,rfl,hb0⟩:=len_cons hb'
        obtain ⟨l1,b1,rfl,hb1⟩:=len_cons hb0
        obtain ⟨l2,b2,rfl,hb2⟩:=len_cons hb1
        obtain ⟨l3,b3,rfl,hb3⟩:=len_cons hb2
        obtain ⟨l4,b4,rfl,hb4⟩:=len_cons hb3
        obtain ⟨l5,b5,rfl,hb5⟩:=len_cons hb4
        obtain ⟨l6,b6,rfl,hb6⟩:=len_cons hb5
        obtain ⟨l7,b7,rfl,hb7⟩:=len_cons hb6
        obtain ⟨l8,b8,rfl,hb8⟩:=len_cons hb7
        obtain ⟨l9,b9,rfl,hb9⟩:=len_cons hb8
        obtain ⟨l10,b10,rfl,hb10⟩:=len_cons hb9
        obtain ⟨l11,b11,rfl,hb11⟩:=len_cons hb10
        obtain ⟨l12,b12,rfl,hb12⟩:=len_cons hb11
        obtain rfl:=List.length_eq_zero_iff.1 hb12
        clear hb' hb0 hb1 hb2 hb3 hb4 hb5 hb6 hb7 hb8 hb9 hb10 hb11 hb12
        · simp only [closedB,depsOk,Region.binds,List.toList_toArray,List.all_cons,List.all_nil,List.getD_cons_succ,List.getD_cons_zero,Bool.not_true,Bool.not_false,Bool.true_or,Bool.false_or,Bool.and_true,Bool.true_and,Bool.or_true,Bool.and_false,Bool.or_false,Bool.false_and,Bool.and_eq_true,Bool.or_eq_true,Bool.not_eq_true'] at hcl
          simp only [StepsP]
          refine ⟨?_,?_,?_,?_,?_,?_,?_,?_,?_,?_,?_,?_,?_,trivial⟩
          · intro h1 h2
            simp [depsOk,Region.binds] at h1 h2
            subst h1
            (repeat (obtain ⟨rfl,h2⟩:=h2))
            (try subst h2)
            clear hcl
            all_goals refine CD ?_
            all_goals ((with_reducible apply AP.k_any);first|(refine AP.sm false rfl ?_ ?_;focus (exact PF0))|fail "no step")
            all_goals (try refine NX ?_)
            all_goals refine AP.nil ?_
            all_goals exact ⟨rfl,rfl⟩
          · intro h1 h2
            simp [depsOk,Region.binds] at h1 h2
            subst h1
            (repeat (obtain ⟨rfl,h2⟩:=h2))
            (try subst h2)
            (first|(obtain rfl:l10=false:=by grind only)|skip)
            (first|(obtain rfl:l12=false:=by grind only)|skip)
            clear hcl
            all_goals refine CD ?_
            all_goals ((with_reducible apply AP.k_any);first|(refine AP.sm false rfl ?_ ?_;focus (exact PF0))|(refine AP.el rfl ?_ (by (first|(refine ⟨?_,?_⟩;assumption;rfl)|exact ⟨mapAt (by (first|omega|(simp;omega)|(simp;done)|assumption)),rfl⟩|exact ⟨rfl,rfl⟩)) ?_;focus (exact PF0))|fail "no step")
            all_goals (try refine NX ?_)
            all_goals refine AP.nil ?_
            all_goals exact ⟨rfl,rfl⟩
          · intro h1 h2
            simp [depsOk,Region.binds] at h1 h2
            subst h1
            (repeat (obtain ⟨rfl,h2⟩:=h2))
            (try subst h2)
            clear hcl
            all_goals refine CD ?_
            all_goals ((with_reducible apply AP.k_any);first|(refine AP.sm false rfl ?_ ?_;focus (exact PF0))|fail "no step")
            all_goals (try refine NX ?_)
            all_goals refine AP.nil ?_
            all_goals exact ⟨rfl,rfl⟩
          · intro h1 h2
            simp [depsOk,Region.binds] at h1 h2
            subst h1
            (repeat (obtain ⟨rfl,h2⟩:=h2))
            (try subst h2)
            (first|(obtain rfl:l5=false:=by grind only)|skip)
            (first|(obtain rfl:l7=false:=by grind only)|skip)
            (first|(obtain rfl:l9=false:=by grind only)|skip)
            (first|(obtain rfl:l10=false:=by grind only)|skip)
            (first|(obtain rfl:l12=false:=by grind only)|skip)
            clear hcl
            all_goals refine CD ?_
            (first
            | ((with_reducible apply AP.k_any);refine AP.CB [(0,0)] 0 (rint_ac (intR S).2 g1) ?_)
            | ((with_reducible apply AP.k_any);refine AP.CB [(0,0)] 0 (rint_ac S hS) ?_)
            | ((with_reducible apply AP.k_any);refine AP.CB [(0,0)] 0 (rflag_ac _ g2) ?_)
            | fail "no arm")
            all_goals (try refine NX ?_)
            all_goals refine AP.nil ?_
            all_goals exact ⟨rfl,rfl⟩
          · intro h1 h2
            simp [depsOk,Region.binds] at h1 h2
            subst h1
            (repeat (obtain ⟨rfl,h2⟩:=h2))
            (try subst h2)
            clear hcl
            all_goals refine CD ?_
            all_goals ((with_reducible apply AP.k_any);first|(refine AP.sm false rfl ?_ ?_;focus (exact PF0))|fail "no step")
            all_goals (try refine NX ?_)
            all_goals refine AP.nil ?_
            all_goals exact ⟨rfl,rfl⟩
          · intro h1 h2
            simp [depsOk,Region.binds] at h1 h2
            subst h1
            (repeat (obtain ⟨rfl,h2⟩:=h2))
            (try subst h2)
            (first|(obtain rfl:l3=true:=by grind only)|skip)
            (first|(obtain rfl:l7=false:=by grind only)|skip)
            (first|(obtain rfl:l9=false:=by grind only)|skip)
            (first|(obtain rfl:l10=false:=by grind only)|skip)
            (first|(obtain rfl:l12=false:=by grind only)|skip)
            clear hcl
            all_goals refine CD ?_
            (first
            | ((with_reducible apply AP.k_any);refine AP.CB [(0,0)] 0 (rint_ac (intR S).2 g1) ?_)
            | ((with_reducible apply AP.k_any);refine AP.CB [(0,0)] 0 (rint_ac S hS) ?_)
            | ((with_reducible apply AP.k_any);refine AP.CB [(0,0)] 0 (rflag_ac _ g2) ?_)
            | fail "no arm")
            all_goals (try refine NX ?_)
            all_goals refine AP.nil ?_
            all_goals exact ⟨rfl,rfl⟩
          · intro h1 h2
            simp [depsOk,Region.binds] at h1 h2
            subst h1
            (repeat (obtain ⟨rfl,h2⟩:=h2))
            (try subst h2)
            clear hcl
            all_goals refine CD ?_
            all_goals ((with_reducible apply AP.k_any);first|(refine AP.sm false rfl ?_ ?_;focus (exact PF0))|fail "no step")
            all_goals (try refine NX ?_)
            all_goals refine AP.nil ?_
            all_goals exact ⟨rfl,rfl⟩
          · intro h1 h2
            simp [depsOk,Region.binds] at h1 h2
            subst h1
            (repeat (obtain ⟨rfl,h2⟩:=h2))
            (try subst h2)
            (first|(obtain rfl:l3=true:=by grind only)|skip)
            (first|(obtain rfl:l5=true:=by grind only)|skip)
            (first|(obtain rfl:l9=false:=by grind only)|skip)
            (first|(obtain rfl:l10=false:=by grind only)|skip)
            (first|(obtain rfl:l12=false:=by grind only)|skip)
            clear hcl
            all_goals refine CD ?_
            (first
            | ((with_reducible apply AP.k_any);refine AP.CB [(0,0)] 0 (rint_ac (intR S).2 g1) ?_)
            | ((with_reducible apply AP.k_any);refine AP.CB [(0,0)] 0 (rint_ac S hS) ?_)
            | ((with_reducible apply AP.k_any);refine AP.CB [(0,0)] 0 (rflag_ac _ g2) ?_)
            | fail "no arm")
            all_goals (try refine NX ?_)
            all_goals refine AP.nil ?_
            all_goals exact ⟨rfl,rfl⟩
          · intro h1 h2
            simp [depsOk,Region.binds] at h1 h2
            subst h1
            (repeat (obtain ⟨rfl,h2⟩:=h2))
            (try subst h2)
            clear hcl
            all_goals refine CD ?_
            all_goals ((with_reducible apply AP.k_any);first|(refine AP.sm false rfl ?_ ?_;focus (exact PF0))|fail "no step")
            all_goals (try refine NX ?_)
            all_goals refine AP.nil ?_
            all_goals exact ⟨rfl,rfl⟩
          · intro h1 h2
            simp [depsOk,Region.binds] at h1 h2
            subst h1
            (repeat (obtain ⟨rfl,h2⟩:=h2))
            (try subst h2)
            (first|(obtain rfl:l3=true:=by grind only)|skip)
            (first|(obtain rfl:l5=true:=by grind only)|skip)
            (first|(obtain rfl:l7=true:=by grind only)|skip)
            (first|(obtain rfl:l10=false:=by grind only)|skip)
            (first|(obtain rfl:l12=false:=by grind only)|skip)
            clear hcl
            all_goals refine CD ?_
            all_goals ((with_reducible apply AP.k_any);first|(refine AP.sm false rfl ?_ ?_;focus (exact PF0))|fail "no step")
            all_goals (try refine NX ?_)
            all_goals refine AP.nil ?_
            all_goals exact ⟨rfl,rfl⟩
          · intro h1 h2
            simp [depsOk,Region.binds] at h1 h2
            subst h1
            (repeat (obtain ⟨rfl,h2⟩:=h2))
            (try subst h2)
            (first|(obtain rfl:l3=true:=by grind only)|skip)
            (first|(obtain rfl:l5=true:=by grind only)|skip)
            (first|(obtain rfl:l7=true:=by grind only)|skip)
            (first|(obtain rfl:l9=true:=by grind only)|skip)
            (first|(obtain rfl:l12=false:=by grind only)|skip)
            clear hcl
            all_goals refine CD ?_
            all_goals ((with_reducible apply AP.k_any);first|(refine AP.sm false rfl ?_ ?_;focus (exact PF0))|fail "no step")
            all_goals (try refine NX ?_)
            all_goals refine AP.nil ?_
            all_goals exact ⟨rfl,rfl⟩
          · intro h1 h2
            simp [depsOk,Region.binds] at h1 h2
            subst h1
            (repeat (obtain ⟨rfl,h2⟩:=h2))
            (try subst h2)
            clear hcl
            all_goals refine CD ?_
            all_goals ((with_reducible apply AP.k_any);first|(refine AP.sm false rfl ?_ ?_;focus (exact PF0))|fail "no step")
            all_goals (try refine NX ?_)
            all_goals refine AP.nil ?_
            all_goals exact ⟨rfl,rfl⟩
          · intro h1 h2
            simp [depsOk,Region.binds] at h1 h2
            subst h1
            (repeat (obtain ⟨rfl,h2⟩:=h2))
            (try subst h2)
            (first|(obtain rfl:l3=true:=by grind only)|skip)
            (first|(obtain rfl:l5=true:=by grind only)|skip)
            (first|(obtain rfl:l7=true:=by grind only)|skip)
            (first|(obtain rfl:l9=true:=by grind only)|skip)
            (first|(obtain rfl:l10=true:=by grind only)|skip)
            clear hcl
            all_goals refine CD ?_
            all_goals ((with_reducible apply AP.k_any);first|(refine AP.sm false rfl ?_ ?_;focus (exact PF0))|refine ap_storeE rfl rfl rfl rfl rfl rfl rfl rfl (by (first|(refine ⟨?_,?_⟩;assumption;rfl)|exact ⟨mapAt (by (first|omega|(simp;omega)|(simp;done)|assumption)),rfl⟩|exact ⟨rfl,rfl⟩)) (by exact rfl) ?_|fail "no step")
            all_goals (try refine NX ?_)
            all_goals refine AP.nil ?_
            all_goals exact ⟨rfl,rfl⟩
      repeat' (first|((first|((with_reducible apply AP.k_any);first|refine AP.S ?_))<;>(try refine NX ?_))|(refine AP.N0 ?_;try clear hQ' Q')|((with_reducible apply CP.k_reg);refine cp_regG fun Q' hQ'=>?_)|refine CP.W ?_|refine cp_cond rfl (fun hc=>?_) (fun hc=>?_)|(simp only [List.append_eq,List.cons_append,List.nil_append]))
      simp only [hw]
      refine ⟨(k + 1,u + 1,v + 1),by (dsimp only;omega),by (dsimp only;omega),?_⟩
      dsimp only
      rw [hs1,hs2,List.map_append,List.map_cons,List.map_nil]
      exact Gh.W
    · exfalso;simp at *;omega
  · obtain rfl:k=N:=by omega
    refine CP.gh (gh_fz (b:=3) (u:=u) rfl rfl (by (repeat' (first|exact FzC.nil|apply FzC.cons|exact FzV.hd|apply FzV.ag|exact FzV.same))) (by (repeat' (first|exact FzB.nil|apply FzB.c|apply FzB.same|exact FzC.nil|apply FzC.cons|exact FzV.hd|apply FzV.ag|exact FzV.same)))) ?_
    simp only [ro_M]
    repeat' (first|((first|((with_reducible apply AP.k_any);first|refine AP.S ?_))<;>(try refine NX ?_))|(refine AP.N0 ?_;try clear hQ' Q')|((with_reducible apply CP.k_reg);refine cp_regG fun Q' hQ'=>?_)|refine CP.W ?_|refine cp_cond rfl (fun hc=>?_) (fun hc=>?_)|(simp only [List.append_eq,List.cons_append,List.nil_append]))
    all_goals first
      | (exfalso;simp at *;done)
      | (exfalso;simp at *;omega)
      | (exact RetQ.A [(0,0)] (by exact ⟨rfl,rfl⟩))
end Go.Proofs.YtmgneincjfhaoaaGreat

namespace Go.Proofs.YtmgneincjfhaoaaGreat
set_option linter.unusedVariables false
set_option linter.unusedSimpArgs false
set_option maxHeartbeats 8000000
open Go.RowKit
set_option maxRecDepth 100000
abbrev nl:AV:=.sc (.slice none 0 0)
/-- a message of a kind, read so far -/
abbrev eZ (k:UInt8) (c i:Int) (b:AV) (u f:Int) (e:AV) (h d ep:Int) (ms:AV) (s:Int):Bx:=.c tMsg [U k,I c,I i,b,I u,I f,e,I h,I d,I ep,ms,I s]
abbrev St:=Int×List UInt8
def takeAsk (k:UInt8) (st:St):Msg×St:=({ msg0 with kind:=k,client:=(intR st).1,id:=(intR (intR st).2).1,body:=(bytesR (intR (intR st).2).2).1 },(bytesR (intR (intR st).2).2).2)
def takeHave (k:UInt8) (st:St):Msg×St:=({ msg0 with kind:=k,have_:=(intR st).1,done:=(intR (intR st).2).1 },(intR (intR st).2).2)
def takeCfg (k:UInt8) (st:St):Msg×St:=({ msg0 with kind:=k,cfg:=(configR st).1 },(configR st).2)
def takeWhole (k:UInt8) (st:St):Msg×St:=({ msg0 with kind:=k,since:=(intR st).1 },(intR st).2)
/-- n entries from a position on -/
def entsR (p:Int):Nat→Nat→St→List Entry×St
  | _,0,st=>([],st)
  | i,n + 1,st=>((restR (IntKind.i64.wrap (p + i)) st).1 :: (entsR p (i + 1) n (restR (IntKind.i64.wrap (p + i)) st).2).1,(entsR p (i + 1) n (restR (IntKind.i64.wrap (p + i)) st).2).2)
def takeEnt (k:UInt8) (st:St):Msg×St:=
  ({ msg0 with kind:=k,upto:=(intR st).1,frm:=(intR (intR st).2).1,entries:=(entsR (intR (intR st).2).1 0 (countR 4 (intR (intR st).2).2).1.toNat (countR 4 (intR (intR st).2).2).2).1 },
    (entsR (intR (intR st).2).1 0 (countR 4 (intR (intR st).2).2).1.toNat (countR 4 (intR (intR st).2).2).2).2)
theorem ktake4_ac (k:UInt8) (st:St) (hst:st.2.length≤100000000) :
    AC Tryz.prog 167 [.bp 0 0 0,.bp 1 0 0] [rB st,eZ k 0 0 nl 0 0 nl 0 0 0 nl 0] (fun v bs'=>v=.tu []∧bs'=[rB (takeAsk k st).2,.c tMsg (eG (takeAsk k st).1)]):=by
  have h1:=intR_len hst
  have h2:=intR_len h1
  refine AC.N Tryz.func167 Tryz.ntmps167 ?_
  intro X hρ hmks
  refine NX ?_
  repeat' (first|((first|((with_reducible apply AP.k_any);first|refine AP.S ?_)|((with_reducible apply AP.k_any);refine AP.CB [(0,0)] 0 (rbytes_ac (intR (intR st).2).2 h2) ?_)|((with_reducible apply AP.k_any);refine AP.CB [(0,0)] 0 (rint_ac (intR st).2 h1) ?_)|((with_reducible apply AP.k_any);refine AP.CB [(0,0)] 0 (rint_ac st hst) ?_))<;>(try refine NX ?_))|(refine AP.N0 ?_;try clear hQ' Q')|((with_reducible apply CP.k_reg);refine cp_regG fun Q' hQ'=>?_)|refine CP.W ?_|refine cp_cond rfl (fun hc=>?_) (fun hc=>?_)|(simp only [List.append_eq,List.cons_append,List.nil_append]))
  (exact RetQ.A [(0,0),(1,0)] (by exact ⟨rfl,rfl⟩))
theorem ktake8_ac (k:UInt8) (st:St) (hst:st.2.length≤100000000) :
    AC Tryz.prog 172 [.bp 0 0 0,.bp 1 0 0] [rB st,eZ k 0 0 nl 0 0 nl 0 0 0 nl 0] (fun v bs'=>v=.tu []∧bs'=[rB (takeHave k st).2,.c tMsg (eG (takeHave k st).1)]):=by
  have h1:=intR_len hst
  refine AC.N Tryz.func172 Tryz.ntmps172 ?_
  intro X hρ hmks
  refine NX ?_
  repeat' (first|((first|((with_reducible apply AP.k_any);first|refine AP.S ?_)|((with_reducible apply AP.k_any);refine AP.CB [(0,0)] 0 (rint_ac (intR st).2 h1) ?_)|((with_reducible apply AP.k_any);refine AP.CB [(0,0)] 0 (rint_ac st hst) ?_))<;>(try refine NX ?_))|(refine AP.N0 ?_;try clear hQ' Q')|((with_reducible apply CP.k_reg);refine cp_regG fun Q' hQ'=>?_)|refine CP.W ?_|refine cp_cond rfl (fun hc=>?_) (fun hc=>?_)|(simp only [List.append_eq,List.cons_append,List.nil_append]))
  (exact RetQ.A [(0,0),(1,0)] (by exact ⟨rfl,rfl⟩))
theorem ktake12_ac (k:UInt8) (st:St) (hst:st.2.length≤100000000) :
    AC Tryz.prog 178 [.bp 0 0 0,.bp 1 0 0] [rB st,eZ k 0 0 nl 0 0 nl 0 0 0 nl 0] (fun v bs'=>v=.tu []∧bs'=[rB (takeCfg k st).2,.c tMsg (eG (takeCfg k st).1)]):=by
  refine AC.N Tryz.func178 Tryz.ntmps178 ?_
  intro X hρ hmks
  refine NX ?_
  repeat' (first|((first|((with_reducible apply AP.k_any);first|refine AP.S ?_)|((with_reducible apply AP.k_any);refine AP.CB [(0,0)] 0 (takeConfig_ac st hst) ?_))<;>(try refine NX ?_))|(refine AP.N0 ?_;try clear hQ' Q')|((with_reducible apply CP.k_reg);refine cp_regG fun Q' hQ'=>?_)|refine CP.W ?_|refine cp_cond rfl (fun hc=>?_) (fun hc=>?_)|(simp only [List.append_eq,List.cons_append,List.nil_append]))
  (exact RetQ.A [(0,0),(1,0)] (by exact ⟨rfl,rfl⟩))
theorem ktake16_ac (k:UInt8) (st:St) (hst:st.2.length≤100000000) :
    AC Tryz.prog 183 [.bp 0 0 0,.bp 1 0 0] [rB st,eZ k 0 0 nl 0 0 nl 0 0 0 nl 0] (fun v bs'=>v=.tu []∧bs'=[rB (takeWhole k st).2,.c tMsg (eG (takeWhole k st).1)]):=by
  refine AC.N Tryz.func183 Tryz.ntmps183 ?_
  intro X hρ hmks
  refine NX ?_
  repeat' (first|((first|((with_reducible apply AP.k_any);first|refine AP.S ?_)|((with_reducible apply AP.k_any);refine AP.CB [(0,0)] 0 (rint_ac st hst) ?_))<;>(try refine NX ?_))|(refine AP.N0 ?_;try clear hQ' Q')|((with_reducible apply CP.k_reg);refine cp_regG fun Q' hQ'=>?_)|refine CP.W ?_|refine cp_cond rfl (fun hc=>?_) (fun hc=>?_)|(simp only [List.append_eq,List.cons_append,List.nil_append]))
  (exact RetQ.A [(0,0),(1,0)] (by exact ⟨rfl,rfl⟩))
theorem entsR_len {p:Int} {k:Nat}:∀ {n i:Nat} {st:St},st.2.length≤k→(entsR p i n st).2.2.length≤k
  | 0,_,_,h=>h
  | n + 1,i,st,h=>entsR_len (n:=n) (i:=i + 1) (restR_len h)
theorem entsR_fst_len (p:Int):∀ (n i:Nat) (st:St),(entsR p i n st).1.length=n
  | 0,_,_=>rfl
  | n + 1,i,st=>by show (_ :: _).length=_;rw [List.length_cons,entsR_fst_len p n]
theorem entsR_snoc (p:Int):∀ (n i:Nat) (st:St),(entsR p i (n + 1) st).1=(entsR p i n st).1 ++ [(restR (IntKind.i64.wrap (p + ((i + n:Nat):Int))) (entsR p i n st).2).1]∧(entsR p i (n + 1) st).2=(restR (IntKind.i64.wrap (p + ((i + n:Nat):Int))) (entsR p i n st).2).2
  | 0,i,st=>⟨rfl,rfl⟩
  | n + 1,i,st=>by
    have h:=entsR_snoc p n (i + 1) (restR (IntKind.i64.wrap (p + i)) st).2
    have e:i + 1 + n=i + (n + 1):=by omega
    rw [e] at h
    refine ⟨?_,?_⟩
    · show _ :: (entsR p (i + 1) (n + 1) _).1=_
      rw [h.1];rfl
    · show (entsR p (i + 1) (n + 1) _).2=_
      rw [h.2];rfl
end Go.Proofs.YtmgneincjfhaoaaGreat
