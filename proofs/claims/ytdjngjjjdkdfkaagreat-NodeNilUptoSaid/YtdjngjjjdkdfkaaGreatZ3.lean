/-
  Texts joined: Au, Eq, Fv, Enc, Msg, Br, BrA, BrE, DNil.
-/
import Derived.Test.YtdjngjjjdkdfkaaGreatZ1
import Derived.Test.YtdjngjjjdkdfkaaGreatZ2
import Derived.DeepKeys
import Derived.Test.YtdjngjjjdkdfkaaGreatRows
import Derived.OpenShut
import Derived.Carry
import Derived.ChangeArms
import Derived.ChangeSame
import Derived.ChangeMaps5
import Derived.JoinedCond
import Derived.Deep.Slices
import Derived.Deep.CondSized
namespace Go.Proofs.YtdjngjjjdkdfkaaGreat
set_option linter.unusedVariables false
set_option linter.unusedSimpArgs false
open Go.RowKit
set_option maxRecDepth 100000
theorem nx:type_of% (And.intro @nm (And.intro @newS.eq_1 (And.intro @plc.eq_1 (And.intro @plc.eq_2 (And.intro @spl.eq_1 (And.intro @spl.eq_2 (And.intro @bldA.eq_1 (And.intro @bldA.eq_2 (And.intro @bldS.eq_1 (And.intro @bldS.eq_2 (And.intro @zrow.eq_1 (And.intro @zrow.eq_2 (And.intro @chunks.eq_1 (And.intro @chunks.eq_2 (And.intro @ZC.val.eq_1 (And.intro @ZC.val.eq_2 (And.intro @ZC.val.eq_3 (And.intro @ZC.val.eq_4 (And.intro @ZC.val.eq_5 (And.intro @ZC.val.eq_6 (And.intro @ZC.val.eq_7 (@ZC.val.eq_8)))))))))))))))))))))):=And.intro @nm (And.intro @newS.eq_1 (And.intro @plc.eq_1 (And.intro @plc.eq_2 (And.intro @spl.eq_1 (And.intro @spl.eq_2 (And.intro @bldA.eq_1 (And.intro @bldA.eq_2 (And.intro @bldS.eq_1 (And.intro @bldS.eq_2 (And.intro @zrow.eq_1 (And.intro @zrow.eq_2 (And.intro @chunks.eq_1 (And.intro @chunks.eq_2 (And.intro @ZC.val.eq_1 (And.intro @ZC.val.eq_2 (And.intro @ZC.val.eq_3 (And.intro @ZC.val.eq_4 (And.intro @ZC.val.eq_5 (And.intro @ZC.val.eq_6 (And.intro @ZC.val.eq_7 (@ZC.val.eq_8)))))))))))))))))))))
theorem NX {G G':Prop} (K:G') (h:G'→G:=by (intro k;simp only [nx,Nat.reduceAdd,Nat.reduceSub,BEq.rfl];exact k)):G:=h K
theorem CD {G G':Prop} (K:G') (h:G'→G:=by (intro k;simp only [cond_true,cond_false,setT,List.set_cons_succ,List.set_cons_zero,List.getD_cons_succ,List.getD_cons_zero,List.set_cons_succ];exact k)):G:=h K
theorem AP.N0 {G G':Prop} (K:G') (h:G'→G:=by (intro k;(with_reducible apply AP.k_nil);first|exact AP.nil (hQ' _ k)|exact AP.nil k)):G:=h K
theorem PF0 {p:Prop} (h:p:=by ((repeat' (with_reducible apply And.intro))<;>(first|exact True.intro|exact rfl|omega|decide|(simp;omega)|(simp;done)|assumption|exact .inl rfl|(refine .inr ?_;simp;try omega)))):p:=h
section
variable {X:Cx} {s s':AS} {o:Oper} {av:AV} {p:Prop} {op:Op} {ops:Array Oper} {rest:List Oper} {Q:Exit→AS→Prop} {Qa:AS→Prop}
theorem AP.S (K:AP Tryz.prog X ops Q rest s') (h:smG false ops s o=some (s',p):=by exact rfl) (hp:p:=by (exact PF0)):AP Tryz.prog X ops Q (o :: rest) s:=AP.sm false h hp K
theorem AP.Z (K:AP Tryz.prog X ops Q rest s') (h:smG true ops s o=some (s',p):=by exact rfl) (hp:p:=by (exact PF0)):AP Tryz.prog X ops Q (o :: rest) s:=AP.sm true h hp K
theorem AP.E {rows:List (List AV)} {i:Nat} {f:List AV→Option AV} {c:List AV} {d:Option Nat} {ty:Nat} {pos:String} {aft:Array Edge} (K:AP Tryz.prog X ops Q rest (s.put d av)) (h:elS s op=some (rows,i,f,p):=by exact rfl) (hc:rows[i]? = some c∧f c=some av:=by (first|(refine ⟨?_,?_⟩;assumption;rfl)|exact ⟨mapAt (by (first|omega|(simp;omega)|(simp;done)|assumption)),rfl⟩|exact ⟨rfl,rfl⟩)) (hp:p:=by (exact PF0)):AP Tryz.prog X ops Q (⟨d,op,ty,pos,aft,none⟩ :: rest) s:=AP.el h hp hc K
theorem AP.Y {P:Program} {j d:Nat} {b:Bool} (h:AP P X ops Q ({ o with guard:=none } :: rest) s) (hg:o.guard=some (j,b):=by exact rfl) (hd:(ops[j]?).bind (·.dst)=some d:=by exact rfl) (hs:s.t.getD d .de=.sc (.bool b):=by exact rfl):AP P X ops Q (o :: rest) s:=AP.gyes hg hd hs h
theorem AP.T {T e k:Nat} {x y:Operand} {b u i off:Nat} {s1:List (List AV)} {c:List AV} {old:AV} {ti:TI} (K:AP Tryz.prog X ops Q rest (AS.put ⟨s.t,s.b.set b ⟨u,.r e k (s1.set i (c.set off av))⟩⟩ o.dst (.tu [])))
    (hg:o.guard=none:=by exact rfl) (ho:o.op=.store T x y:=by exact rfl) (hx:aev s x=.ep b u k i off:=by exact rfl) (hs:s.b[b]? = some ⟨u,.r e k s1⟩:=by exact rfl) (hy:aev s y=av:=by exact rfl) (hl:(av.leaf && av.known)=true:=by exact rfl)
    (hT:tt[T]? = some ti:=by exact rfl) (hn:ti.size=1:=by exact rfl) (hcl:s1[i]? = some c∧c[off]? = some old:=by (first|(refine ⟨?_,?_⟩;assumption;rfl)|exact ⟨mapAt (by (first|omega|(simp;omega)|(simp;done)|assumption)),rfl⟩|exact ⟨rfl,rfl⟩)) (ht:old.tree=false:=by exact rfl):AP Tryz.prog X ops Q (o :: rest) s:=ap_storeE hg ho hx hs hy hl hT hn hcl ht K
theorem AP.V {op:BinOp} {T T' e k:TypeId} {x y:Operand} {s1:List (List AV)} {i:TI} (K:∀ c:Bool,(c=true→s1=[])→AP Tryz.prog X ops Q rest (s.put o.dst (.sc (.bool (nz op c)))))
    (hg:o.guard=none:=by exact rfl) (ho:o.op=.binOp op T x y T':=by exact rfl) (hx:aev s x=.sl none k s1:=by exact rfl) (hy:aev s y=.sc (.slice none 0 0):=by exact rfl) (hT:tt[T]? = some i:=by exact rfl) (hk:i.kd=.sl e:=by exact rfl) (hop:op=.eql∨op=.neq:=by first|exact .inl rfl|exact .inr rfl):AP Tryz.prog X ops Q (o :: rest) s:=ap_nilsl hg ho hx hy hT hk hop K
theorem AP.F {op:BinOp} {T T':TypeId} {x y:Operand} {fn:Nat} {r:Bool} (K:AP Tryz.prog X ops Q rest (s.put o.dst (.sc (.bool r)))) (hg:o.guard=none:=by exact rfl) (ho:o.op=.binOp op T x y T':=by exact rfl) (hx:aev s x=.sc (.func (.func fn) #[] #[]):=by exact rfl) (hy:aev s y=.sc .nilFunc:=by exact rfl) (hr:nilB op false=some r:=by exact rfl)
    (hT:(match Tryz.prog.underlying T with|some (.func _ _ _)=>true | _=>false)=true:=by kernel_rfl):AP Tryz.prog X ops Q (o :: rest) s:=AP.pure hg (pq_fneq ho hx hy hr hT) K
theorem AP.F0 {op:BinOp} {T T':TypeId} {x y:Operand} {r:Bool} (K:AP Tryz.prog X ops Q rest (s.put o.dst (.sc (.bool r)))) (hg:o.guard=none:=by exact rfl) (ho:o.op=.binOp op T x y T':=by exact rfl) (hx:aev s x=.sc .nilFunc:=by exact rfl) (hy:aev s y=.sc .nilFunc:=by exact rfl) (hr:nilB op true=some r:=by exact rfl)
    (hT:(match Tryz.prog.underlying T with|some (.func _ _ _)=>true | _=>false)=true:=by kernel_rfl):AP Tryz.prog X ops Q (o :: rest) s:=AP.pure hg (pq_fneqN ho hx hy hr hT) K
theorem AP.G {P:Program} {j d:Nat} {b c:Bool} (h1:c=true→AP P X ops Q (o :: rest) ⟨s.t.set d (.sc (.bool true)),s.b⟩) (h2:c=false→AP P X ops Q (o :: rest) ⟨s.t.set d (.sc (.bool false)),s.b⟩) (hg:o.guard=some (j,b):=by exact rfl) (hd:(ops[j]?).bind (·.dst)=some d:=by exact rfl) (hs:s.t.getD d .de=.sc (.bool c):=by exact rfl):AP P X ops Q (o :: rest) s:=AP.gsplit hg hd hs h1 h2
/-! calls -/
def vsB:List (Nat×Nat)→List (Nat×Nat)→Nat→Option (Nat×Nat)
  | (j,0) :: l,p :: m,i=>match Nat.beq i j with
    | true=>some p
    | false=>vsB l m i
  | _ :: l,_ :: m,i=>vsB l m i
  | _,_,_=>none
def ksB (b:List AV) (x:List AV) (i:Nat):Option (Nat×Nat):=
  match b,x with
  | .bp j 0 _ :: b,.bp k u _ :: x=>match Nat.beq i j with
    | true=>some (k,u)
    | false=>ksB b x i
  | .pz l :: b,.pz m :: x=>match vsB l m i with
    | some r=>some r
    | none=>ksB b x i
  | .hd j 0 :: b,.hd k u :: x=>match Nat.beq i j with
    | true=>some (k,u)
    | false=>ksB b x i
  | .vp j 0 _ :: b,.vp k u _ :: x=>match Nat.beq i j with
    | true=>some (k,u)
    | false=>ksB b x i
  | _ :: b,_ :: x=>ksB b x i
  | _,_=>none
def ksA (b x:List AV) (n:Nat):List (Nat×Nat):=(List.range n).filterMap (ksB b x)
theorem AP.C {P:Program} {fn:Nat} {fo:Operand} {cap:List AV} {xs:Array Operand} {tys:Array TypeId} {al:List AV} {r:AV} {bf:List Sl} (hc:AC P fn al [] (fun v bs'=>v=r∧bs'=[])) (K:AP P X ops Q rest (AS.put ⟨s.t,(opnR r bf).2⟩ o.dst (opnR r bf).1))
    (hg:o.guard=none:=by exact rfl) (ho:o.op=.call { callee:=.value fo,args:=xs,argTypes:=tys }:=by exact rfl) (hfo:aev s fo=.fn fn cap:=by exact rfl)
    (hp:PasC false [] [] s.b (xs.toList.map (aev s) ++ cap) al bf:=by ((repeat' (first|exact PasC.nil|apply PasC.nil|apply PasC.cons|apply PasV.leaf rfl|apply PasV.nl|apply PasV.bp rfl|apply PasV.vp rfl|apply PasV.pz|exact VsM.nil|apply VsM.cons rfl|apply PasV.lend rfl rfl rfl|apply PasV.lend rfl rfl (ro_B _)|apply PasV.lend rfl rfl (ro_M _)|apply PasV.lend rfl rfl (ro_E _ _)|apply PasV.lend rfl rfl (ro_I _)|apply PasV.lend rfl rfl (by (simp only [rn,List.map_cons,List.map_nil];first|done|rfl))|apply PasV.mv rfl|apply PasV.hk rfl|apply PasV.ag|apply PasV.fn|exact PasV.fs|apply PasV.any));all_goals fail)) (hnb:r.nb=true:=by exact rfl) (hfl:r.fl2b=true:=by exact rfl):AP P X ops Q (o :: rest) s:=ap_callX hg ho hfo hc hp hnb hfl K
/-! the same, the contract among the hypotheses -/
theorem AP.A {P:Program} {fn:Nat} {fo:Operand} {cap:List AV} {xs:Array Operand} {tys:Array TypeId} {al:List AV} {r:AV} {bf:List Sl} (K:AP P X ops Q rest (AS.put ⟨s.t,(opnR r bf).2⟩ o.dst (opnR r bf).1))
    (hg:o.guard=none:=by exact rfl) (ho:o.op=.call { callee:=.value fo,args:=xs,argTypes:=tys }:=by exact rfl) (hfo:aev s fo=.fn fn cap:=by exact rfl) (hc:AC P fn al [] (fun v bs'=>v=r∧bs'=[]):=by with_reducible assumption)
    (hp:PasC false [] [] s.b (xs.toList.map (aev s) ++ cap) al bf:=by ((repeat' (first|exact PasC.nil|apply PasC.nil|apply PasC.cons|apply PasV.leaf rfl|apply PasV.nl|apply PasV.bp rfl|apply PasV.vp rfl|apply PasV.pz|exact VsM.nil|apply VsM.cons rfl|apply PasV.lend rfl rfl rfl|apply PasV.lend rfl rfl (ro_B _)|apply PasV.lend rfl rfl (ro_M _)|apply PasV.lend rfl rfl (ro_E _ _)|apply PasV.lend rfl rfl (ro_I _)|apply PasV.lend rfl rfl (by (simp only [rn,List.map_cons,List.map_nil];first|done|rfl))|apply PasV.mv rfl|apply PasV.hk rfl|apply PasV.ag|apply PasV.fn|exact PasV.fs|apply PasV.any));all_goals fail)) (hnb:r.nb=true:=by exact rfl) (hfl:r.fl2b=true:=by exact rfl):AP P X ops Q (o :: rest) s:=ap_callX hg ho hfo hc hp hnb hfl K
theorem AP.AB (n:Nat) {P:Program} {fn:Nat} {fo:Operand} {cap:List AV} {xs:Array Operand} {tys:Array TypeId} {al:List AV} {r r1:AV} {bs bs2:List Bx} {b1 bf b3:List Sl} {ks:List (Nat×Nat)} (K:AP P X ops Q rest (AS.put ⟨s.t,(opnR r1 b3).2⟩ o.dst (opnR r1 b3).1))
    (hg:o.guard=none:=by exact rfl) (ho:o.op=.call { callee:=.value fo,args:=xs,argTypes:=tys }:=by exact rfl) (hfo:aev s fo=.fn fn cap:=by exact rfl) (hc:AC P fn al bs (fun v bs'=>v=r∧bs'=bs2):=by with_reducible assumption) (hks:ksA al (xs.toList.map (aev s) ++ cap) bs.length=ks:=by exact rfl)
    (hl:Nat.beq bs2.length (bs.length + n)=true:=by exact rfl) (hp:PasC false ks [] s.b (xs.toList.map (aev s) ++ cap) al b1:=by ((repeat' (first|exact PasC.nil|apply PasC.nil|apply PasC.cons|apply PasV.leaf rfl|apply PasV.nl|apply PasV.bp rfl|apply PasV.vp rfl|apply PasV.pz|exact VsM.nil|apply VsM.cons rfl|apply PasV.lend rfl rfl rfl|apply PasV.lend rfl rfl (ro_B _)|apply PasV.lend rfl rfl (ro_M _)|apply PasV.lend rfl rfl (ro_E _ _)|apply PasV.lend rfl rfl (ro_I _)|apply PasV.lend rfl rfl (by (simp only [rn,List.map_cons,List.map_nil];first|done|rfl))|apply PasV.mv rfl|apply PasV.hk rfl|apply PasV.ag|apply PasV.fn|exact PasV.fs|apply PasV.any));all_goals fail)) (hout:Out b1 ks bs bf:=by ((repeat' (first|exact ClsC.nil|apply ClsC.nl|apply ClsC.leaf rfl|apply ClsC.hd rfl|apply ClsC.ob rfl|apply ClsC.mo rfl|apply ClsC.mp rfl|apply ClsC.hp rfl|exact Out.nil|apply Out.cons rfl|apply Out.r rfl|apply Out.f rfl|apply ClsC.fn|apply ClsC.fz rfl (ro_B _)|apply ClsC.fz rfl (ro_M _)|apply ClsC.fz rfl (ro_E _ _)|apply ClsC.fz rfl rfl));all_goals fail)) (hl2:Nat.beq ks.length bs.length=true:=by exact rfl) (hbk:Bk (plc n bf).2 (ks ++ (plc n bf).1) bs2 b3:=by ((repeat' (first|exact Bk.nil|apply Bk.cons rfl rfl rfl|apply Bk.r rfl));all_goals fail)) (hrn:RnV (ks ++ (plc n bf).1) r r1:=by ((repeat' (first|exact RnV.leaf rfl|exact RnV.fs|exact RnC.nil|apply RnC.cons|apply RnV.ag|apply RnV.tu|apply RnV.fn|exact RnV.bp rfl));all_goals fail)) (hfl:r1.fl2b=true:=by exact rfl):AP P X ops Q (o :: rest) s:=ap_callB n ks hg ho hfo hc hp hout (by rw [Nat.eq_of_beq_eq_true hl2];exact hl) hbk hrn hfl K
theorem AP.B (n:Nat) {P:Program} {fn:Nat} {fo:Operand} {cap:List AV} {xs:Array Operand} {tys:Array TypeId} {al:List AV} {r r1:AV} {bs bs2:List Bx} {b1 bf b3:List Sl} {ks:List (Nat×Nat)} (hc:AC P fn al bs (fun v bs'=>v=r∧bs'=bs2)) (K:AP P X ops Q rest (AS.put ⟨s.t,(opnR r1 b3).2⟩ o.dst (opnR r1 b3).1))
    (hg:o.guard=none:=by exact rfl) (ho:o.op=.call { callee:=.value fo,args:=xs,argTypes:=tys }:=by exact rfl) (hfo:aev s fo=.fn fn cap:=by exact rfl) (hks:ksA al (xs.toList.map (aev s) ++ cap) bs.length=ks:=by exact rfl)
    (hl:Nat.beq bs2.length (bs.length + n)=true:=by exact rfl) (hp:PasC false ks [] s.b (xs.toList.map (aev s) ++ cap) al b1:=by ((repeat' (first|exact PasC.nil|apply PasC.nil|apply PasC.cons|apply PasV.leaf rfl|apply PasV.nl|apply PasV.bp rfl|apply PasV.vp rfl|apply PasV.pz|exact VsM.nil|apply VsM.cons rfl|apply PasV.lend rfl rfl rfl|apply PasV.lend rfl rfl (ro_B _)|apply PasV.lend rfl rfl (ro_M _)|apply PasV.lend rfl rfl (ro_E _ _)|apply PasV.lend rfl rfl (ro_I _)|apply PasV.lend rfl rfl (by (simp only [rn,List.map_cons,List.map_nil];first|done|rfl))|apply PasV.mv rfl|apply PasV.hk rfl|apply PasV.ag|apply PasV.fn|exact PasV.fs|apply PasV.any));all_goals fail)) (hout:Out b1 ks bs bf:=by ((repeat' (first|exact ClsC.nil|apply ClsC.nl|apply ClsC.leaf rfl|apply ClsC.hd rfl|apply ClsC.ob rfl|apply ClsC.mo rfl|apply ClsC.mp rfl|apply ClsC.hp rfl|exact Out.nil|apply Out.cons rfl|apply Out.r rfl|apply Out.f rfl|apply ClsC.fn|apply ClsC.fz rfl (ro_B _)|apply ClsC.fz rfl (ro_M _)|apply ClsC.fz rfl (ro_E _ _)|apply ClsC.fz rfl rfl));all_goals fail)) (hl2:Nat.beq ks.length bs.length=true:=by exact rfl) (hbk:Bk (plc n bf).2 (ks ++ (plc n bf).1) bs2 b3:=by ((repeat' (first|exact Bk.nil|apply Bk.cons rfl rfl rfl|apply Bk.r rfl));all_goals fail)) (hrn:RnV (ks ++ (plc n bf).1) r r1:=by ((repeat' (first|exact RnV.leaf rfl|exact RnV.fs|exact RnC.nil|apply RnC.cons|apply RnV.ag|apply RnV.tu|apply RnV.fn|exact RnV.bp rfl));all_goals fail)) (hfl:r1.fl2b=true:=by exact rfl):AP P X ops Q (o :: rest) s:=ap_callB n ks hg ho hfo hc hp hout (by rw [Nat.eq_of_beq_eq_true hl2];exact hl) hbk hrn hfl K
theorem AP.AL {P:Program} {fn:Nat} {fo:Operand} {cap:List AV} {xs:Array Operand} {tys:Array TypeId} {al:List AV} {r:AV} (K:AP P X ops Q rest (AS.put ⟨s.t,(opnR r s.b).2⟩ o.dst (opnR r s.b).1))
    (hg:o.guard=none:=by exact rfl) (ho:o.op=.call { callee:=.value fo,args:=xs,argTypes:=tys }:=by exact rfl) (hfo:aev s fo=.fn fn cap:=by exact rfl) (hc:AC P fn al [] (fun v bs'=>v=r∧bs'=[]):=by with_reducible assumption)
    (hp:PasC true [] s.b s.b (xs.toList.map (aev s) ++ cap) al s.b:=by ((repeat' (first|exact PasC.nil|apply PasC.nil|apply PasC.cons|apply PasV.leaf rfl|apply PasV.nl|apply PasV.bp rfl|apply PasV.vp rfl|apply PasV.pz|exact VsM.nil|apply VsM.cons rfl|apply PasV.lend rfl rfl rfl|apply PasV.lend rfl rfl (ro_B _)|apply PasV.lend rfl rfl (ro_M _)|apply PasV.lend rfl rfl (ro_E _ _)|apply PasV.lend rfl rfl (ro_I _)|apply PasV.lend rfl rfl (by (simp only [rn,List.map_cons,List.map_nil];first|done|rfl))|apply PasV.mv rfl|apply PasV.hk rfl|apply PasV.ag|apply PasV.fn|exact PasV.fs|apply PasV.any));all_goals fail)) (hnr:NR r:=by (first|exact NR.sc|exact NR.ni|exact NR.de|exact nr_B|exact nr_M|exact nr_E|(apply NR.ag;intro a ha;simp only [List.mem_cons,List.not_mem_nil,or_false] at ha;rcases ha with rfl|rfl|rfl|rfl|rfl|rfl|rfl|rfl|rfl|rfl|rfl|rfl<;>first|exact NR.sc|exact NR.ni|exact NR.de|exact nr_B|exact nr_M|exact nr_E))) (hnb:r.nb=true:=by exact rfl) (hfl:r.fl2b=true:=by exact rfl):AP P X ops Q (o :: rest) s:=ap_callL hg ho hfo hc hp hnr hnb hfl K
theorem AQ.A {P:Program} {fn:Nat} {fo:Operand} {cap:List AV} {xs:Array Operand} {tys:Array TypeId} {al:List AV} {v:Value} {r0:AV} (K:AQ P X ops Qa rest (s.put o.dst r0)) (hg:o.guard=none:=by exact rfl) (ho:o.op=.call { callee:=.value fo,args:=xs,argTypes:=tys }:=by exact rfl) (hfo:aev s fo=.fn fn cap:=by exact rfl) (hc:AC P fn al [] (fun r bs'=>r=r0∧bs'=[]):=by with_reducible assumption)
    (hv1:r0.pv=some v:=by exact rfl) (hnt:ntC al=true:=by exact rfl) (hp:PasC true [] s.b s.b (xs.toList.map (aev s) ++ cap) al s.b:=by ((repeat' (first|exact PasC.nil|apply PasC.nil|apply PasC.cons|apply PasV.leaf rfl|apply PasV.nl|apply PasV.bp rfl|apply PasV.vp rfl|apply PasV.pz|exact VsM.nil|apply VsM.cons rfl|apply PasV.lend rfl rfl rfl|apply PasV.lend rfl rfl (ro_B _)|apply PasV.lend rfl rfl (ro_M _)|apply PasV.lend rfl rfl (ro_E _ _)|apply PasV.lend rfl rfl (ro_I _)|apply PasV.lend rfl rfl (by (simp only [rn,List.map_cons,List.map_nil];first|done|rfl))|apply PasV.mv rfl|apply PasV.hk rfl|apply PasV.ag|apply PasV.fn|exact PasV.fs|apply PasV.any));all_goals fail)):AQ P X ops Qa (o :: rest) s:=AQ.pure hg (pq_call ho hfo hc hv1 hnt hp) K
/-! drawn regions that only read -/
theorem AQ.S (K:AQ Tryz.prog X ops Qa rest s') (h:sqG ops s o=some (s',p):=by exact rfl) (hp:p:=by (exact PF0)):AQ Tryz.prog X ops Qa (o :: rest) s:=AQ.sm h hp K
theorem AQ.E {rows:List (List AV)} {i:Nat} {f:List AV→Option AV} {c:List AV} {d:Option Nat} {ty:Nat} {pos:String} {aft:Array Edge} (K:AQ Tryz.prog X ops Qa rest (s.put d av)) (h:elS s op=some (rows,i,f,p):=by exact rfl) (hc:rows[i]? = some c∧f c=some av:=by (first|(refine ⟨?_,?_⟩;assumption;rfl)|exact ⟨mapAt (by (first|omega|(simp;omega)|(simp;done)|assumption)),rfl⟩|exact ⟨rfl,rfl⟩)) (hp:p:=by (exact PF0)):AQ Tryz.prog X ops Qa (⟨d,op,ty,pos,aft,none⟩ :: rest) s:=AQ.el h hp hc K
theorem AQ.Y {P:Program} {j d:Nat} {b:Bool} (h:AQ P X ops Qa ({ o with guard:=none } :: rest) s) (hg:o.guard=some (j,b):=by exact rfl) (hd:(ops[j]?).bind (·.dst)=some d:=by exact rfl) (hs:s.t.getD d .de=.sc (.bool b):=by exact rfl):AQ P X ops Qa (o :: rest) s:=AQ.gyes hg hd hs h
theorem AQ.G {P:Program} {j d:Nat} {b c:Bool} (h1:c=true→AQ P X ops Qa (o :: rest) ⟨s.t.set d (.sc (.bool true)),s.b⟩) (h2:c=false→AQ P X ops Qa (o :: rest) ⟨s.t.set d (.sc (.bool false)),s.b⟩) (hg:o.guard=some (j,b):=by exact rfl) (hd:(ops[j]?).bind (·.dst)=some d:=by exact rfl) (hs:s.t.getD d .de=.sc (.bool c):=by exact rfl):AQ P X ops Qa (o :: rest) s:=AQ.gsplit hg hd hs h1 h2
theorem AQ.F {op:BinOp} {T T':TypeId} {x y:Operand} {fn:Nat} {r:Bool} (K:AQ Tryz.prog X ops Qa rest (s.put o.dst (.sc (.bool r)))) (hg:o.guard=none:=by exact rfl) (ho:o.op=.binOp op T x y T':=by exact rfl) (hx:aev s x=.sc (.func (.func fn) #[] #[]):=by exact rfl) (hy:aev s y=.sc .nilFunc:=by exact rfl) (hr:nilB op false=some r:=by exact rfl)
    (hT:(match Tryz.prog.underlying T with|some (.func _ _ _)=>true | _=>false)=true:=by kernel_rfl):AQ Tryz.prog X ops Qa (o :: rest) s:=AQ.pure hg (pq_fneq ho hx hy hr hT) K
theorem AQ.F0 {op:BinOp} {T T':TypeId} {x y:Operand} {r:Bool} (K:AQ Tryz.prog X ops Qa rest (s.put o.dst (.sc (.bool r)))) (hg:o.guard=none:=by exact rfl) (ho:o.op=.binOp op T x y T':=by exact rfl) (hx:aev s x=.sc .nilFunc:=by exact rfl) (hy:aev s y=.sc .nilFunc:=by exact rfl) (hr:nilB op true=some r:=by exact rfl)
    (hT:(match Tryz.prog.underlying T with|some (.func _ _ _)=>true | _=>false)=true:=by kernel_rfl):AQ Tryz.prog X ops Qa (o :: rest) s:=AQ.pure hg (pq_fneqN ho hx hy hr hT) K
/-! entering, leaving -/
theorem AC.N {fn:Nat} {F:Func} {c:Code} {nt:Nat} {args:List AV} {bs:List Bx} {Q:AV→List Bx→Prop} {b1:List Sl} (hf:Tryz.prog.funcs[fn]? = some F) (hnt:F.ntmps=nt) (K:∀ X:Cx,X.ρ=none→X.mks=true→CP Tryz.prog X c (RetQ F (bs.map Bx.isR) Q) ⟨(opnL args b1).1 ++ List.replicate (nt - args.length) (.tu []),(opnL args b1).2⟩)
    (hb:F.body=some c:=by exact rfl) (hname:(F.name == "runtime.NumGoroutine")=false:=by exact rfl) (hfl:∀ x∈args,x.fl1:=by exact fl1_all rfl) (hbk:Bk (List.replicate bs.length ⟨0,.o⟩) ((List.range bs.length).map fun i=>(i,0)) bs b1:=by ((repeat' (first|exact Bk.nil|apply Bk.cons rfl rfl rfl|apply Bk.r rfl));all_goals fail)):AC Tryz.prog fn args bs Q:=AC.enter hf hb hname hnt hfl hbk K
section
variable {F:Func} {n:List Bool} {Q:AV→List Bx→Prop} {e:Exit} {vs:List AV} {r1 r:AV} {b1 b2:List Sl} {bs':List Bx}
theorem RetQ.B (ks:List (Nat×Nat)) (hq:Q r bs') (he:e=.normal∨e=.ret:=by first|exact .inr rfl|exact .inl rfl) (hl:ResL s F.results.toList vs:=by ((repeat' (first|exact RnV.leaf rfl|exact RnV.fs|exact RnC.nil|apply RnC.cons|apply RnV.ag|apply RnV.tu|apply RnV.fn|exact RnV.bp rfl|exact ResL.nil|apply ResL.cons (Res1.row rfl rfl rfl rfl rfl)|apply ResL.cons (Res1.flat rfl rfl rfl rfl rfl)|apply ResL.cons (Res1.tmp (by (try simp only [List.getD_cons_succ,List.getD_cons_zero]);exact rfl))|exact ClsC.nil|exact ClsL.nil|apply ClsC.nl|apply ClsC.leaf rfl|apply ClsC.hd rfl|apply ClsC.ob rfl|apply ClsC.mo rfl|apply ClsC.mp rfl|apply ClsC.hp rfl|apply ClsC.fn|apply ClsR.tu|apply ClsL.cons|apply ClsV.ag|exact ClsV.bp|exact ClsV.fs|exact ClsV.one (ClsC.leaf rfl ClsC.nil)|exact ClsV.one (ClsC.nl ClsC.nil)|exact ClsV.one (ClsC.hd rfl ClsC.nil)|apply ClsR.one|exact Out.nil|apply Out.cons rfl|apply Out.r rfl|apply Out.f rfl|exact hks_of rfl|exact ClsV.fn));all_goals fail)) (hc:ClsR s.b (resV vs) r1 b1:=by ((repeat' (first|exact RnV.leaf rfl|exact RnV.fs|exact RnC.nil|apply RnC.cons|apply RnV.ag|apply RnV.tu|apply RnV.fn|exact RnV.bp rfl|exact ResL.nil|apply ResL.cons (Res1.row rfl rfl rfl rfl rfl)|apply ResL.cons (Res1.flat rfl rfl rfl rfl rfl)|apply ResL.cons (Res1.tmp (by (try simp only [List.getD_cons_succ,List.getD_cons_zero]);exact rfl))|exact ClsC.nil|exact ClsL.nil|apply ClsC.nl|apply ClsC.leaf rfl|apply ClsC.hd rfl|apply ClsC.ob rfl|apply ClsC.mo rfl|apply ClsC.mp rfl|apply ClsC.hp rfl|apply ClsC.fn|apply ClsR.tu|apply ClsL.cons|apply ClsV.ag|exact ClsV.bp|exact ClsV.fs|exact ClsV.one (ClsC.leaf rfl ClsC.nil)|exact ClsV.one (ClsC.nl ClsC.nil)|exact ClsV.one (ClsC.hd rfl ClsC.nil)|apply ClsR.one|exact Out.nil|apply Out.cons rfl|apply Out.r rfl|apply Out.f rfl|exact hks_of rfl|exact ClsV.fn));all_goals fail)) (hr:RnV (mskK s.b.length n ks) r r1:=by ((repeat' (first|exact RnV.leaf rfl|exact RnV.fs|exact RnC.nil|apply RnC.cons|apply RnV.ag|apply RnV.tu|apply RnV.fn|exact RnV.bp rfl|exact ResL.nil|apply ResL.cons (Res1.row rfl rfl rfl rfl rfl)|apply ResL.cons (Res1.flat rfl rfl rfl rfl rfl)|apply ResL.cons (Res1.tmp (by (try simp only [List.getD_cons_succ,List.getD_cons_zero]);exact rfl))|exact ClsC.nil|exact ClsL.nil|apply ClsC.nl|apply ClsC.leaf rfl|apply ClsC.hd rfl|apply ClsC.ob rfl|apply ClsC.mo rfl|apply ClsC.mp rfl|apply ClsC.hp rfl|apply ClsC.fn|apply ClsR.tu|apply ClsL.cons|apply ClsV.ag|exact ClsV.bp|exact ClsV.fs|exact ClsV.one (ClsC.leaf rfl ClsC.nil)|exact ClsV.one (ClsC.nl ClsC.nil)|exact ClsV.one (ClsC.hd rfl ClsC.nil)|apply ClsR.one|exact Out.nil|apply Out.cons rfl|apply Out.r rfl|apply Out.f rfl|exact hks_of rfl|exact ClsV.fn));all_goals fail)) (ho:Out b1 ks bs' b2:=by ((repeat' (first|exact RnV.leaf rfl|exact RnV.fs|exact RnC.nil|apply RnC.cons|apply RnV.ag|apply RnV.tu|apply RnV.fn|exact RnV.bp rfl|exact ResL.nil|apply ResL.cons (Res1.row rfl rfl rfl rfl rfl)|apply ResL.cons (Res1.flat rfl rfl rfl rfl rfl)|apply ResL.cons (Res1.tmp (by (try simp only [List.getD_cons_succ,List.getD_cons_zero]);exact rfl))|exact ClsC.nil|exact ClsL.nil|apply ClsC.nl|apply ClsC.leaf rfl|apply ClsC.hd rfl|apply ClsC.ob rfl|apply ClsC.mo rfl|apply ClsC.mp rfl|apply ClsC.hp rfl|apply ClsC.fn|apply ClsR.tu|apply ClsL.cons|apply ClsV.ag|exact ClsV.bp|exact ClsV.fs|exact ClsV.one (ClsC.leaf rfl ClsC.nil)|exact ClsV.one (ClsC.nl ClsC.nil)|exact ClsV.one (ClsC.hd rfl ClsC.nil)|apply ClsR.one|exact Out.nil|apply Out.cons rfl|apply Out.r rfl|apply Out.f rfl|exact hks_of rfl|exact ClsV.fn));all_goals fail))
    (hk:∀ i,i < n.length→ks[i]? = some (i,0):=by exact hks_of rfl) (hkk:kOk n bs'=true:=by exact rfl):RetQ F n Q e s:=.mk2 he hl hc hr ho hk hkk hq
theorem RetQ.A (ks:List (Nat×Nat)) (hq:Q r bs') (he:e=.normal∨e=.ret:=by first|exact .inr rfl|exact .inl rfl) (hr:RnV (mskK s.b.length n ks) r r1:=by ((repeat' (first|exact RnV.leaf rfl|exact RnV.fs|exact RnC.nil|apply RnC.cons|apply RnV.ag|apply RnV.tu|apply RnV.fn|exact RnV.bp rfl|exact ResL.nil|apply ResL.cons (Res1.row rfl rfl rfl rfl rfl)|apply ResL.cons (Res1.flat rfl rfl rfl rfl rfl)|apply ResL.cons (Res1.tmp (by (try simp only [List.getD_cons_succ,List.getD_cons_zero]);exact rfl))|exact ClsC.nil|exact ClsL.nil|apply ClsC.nl|apply ClsC.leaf rfl|apply ClsC.hd rfl|apply ClsC.ob rfl|apply ClsC.mo rfl|apply ClsC.mp rfl|apply ClsC.hp rfl|apply ClsC.fn|apply ClsR.tu|apply ClsL.cons|apply ClsV.ag|exact ClsV.bp|exact ClsV.fs|exact ClsV.one (ClsC.leaf rfl ClsC.nil)|exact ClsV.one (ClsC.nl ClsC.nil)|exact ClsV.one (ClsC.hd rfl ClsC.nil)|apply ClsR.one|exact Out.nil|apply Out.cons rfl|apply Out.r rfl|apply Out.f rfl|exact hks_of rfl|exact ClsV.fn));all_goals fail)) (hl:ResL s F.results.toList vs:=by ((repeat' (first|exact RnV.leaf rfl|exact RnV.fs|exact RnC.nil|apply RnC.cons|apply RnV.ag|apply RnV.tu|apply RnV.fn|exact RnV.bp rfl|exact ResL.nil|apply ResL.cons (Res1.row rfl rfl rfl rfl rfl)|apply ResL.cons (Res1.flat rfl rfl rfl rfl rfl)|apply ResL.cons (Res1.tmp (by (try simp only [List.getD_cons_succ,List.getD_cons_zero]);exact rfl))|exact ClsC.nil|exact ClsL.nil|apply ClsC.nl|apply ClsC.leaf rfl|apply ClsC.hd rfl|apply ClsC.ob rfl|apply ClsC.mo rfl|apply ClsC.mp rfl|apply ClsC.hp rfl|apply ClsC.fn|apply ClsR.tu|apply ClsL.cons|apply ClsV.ag|exact ClsV.bp|exact ClsV.fs|exact ClsV.one (ClsC.leaf rfl ClsC.nil)|exact ClsV.one (ClsC.nl ClsC.nil)|exact ClsV.one (ClsC.hd rfl ClsC.nil)|apply ClsR.one|exact Out.nil|apply Out.cons rfl|apply Out.r rfl|apply Out.f rfl|exact hks_of rfl|exact ClsV.fn));all_goals fail)) (hc:ClsR s.b (resV vs) r1 b1:=by ((repeat' (first|exact RnV.leaf rfl|exact RnV.fs|exact RnC.nil|apply RnC.cons|apply RnV.ag|apply RnV.tu|apply RnV.fn|exact RnV.bp rfl|exact ResL.nil|apply ResL.cons (Res1.row rfl rfl rfl rfl rfl)|apply ResL.cons (Res1.flat rfl rfl rfl rfl rfl)|apply ResL.cons (Res1.tmp (by (try simp only [List.getD_cons_succ,List.getD_cons_zero]);exact rfl))|exact ClsC.nil|exact ClsL.nil|apply ClsC.nl|apply ClsC.leaf rfl|apply ClsC.hd rfl|apply ClsC.ob rfl|apply ClsC.mo rfl|apply ClsC.mp rfl|apply ClsC.hp rfl|apply ClsC.fn|apply ClsR.tu|apply ClsL.cons|apply ClsV.ag|exact ClsV.bp|exact ClsV.fs|exact ClsV.one (ClsC.leaf rfl ClsC.nil)|exact ClsV.one (ClsC.nl ClsC.nil)|exact ClsV.one (ClsC.hd rfl ClsC.nil)|apply ClsR.one|exact Out.nil|apply Out.cons rfl|apply Out.r rfl|apply Out.f rfl|exact hks_of rfl|exact ClsV.fn));all_goals fail)) (ho:Out b1 ks bs' b2:=by ((repeat' (first|exact RnV.leaf rfl|exact RnV.fs|exact RnC.nil|apply RnC.cons|apply RnV.ag|apply RnV.tu|apply RnV.fn|exact RnV.bp rfl|exact ResL.nil|apply ResL.cons (Res1.row rfl rfl rfl rfl rfl)|apply ResL.cons (Res1.flat rfl rfl rfl rfl rfl)|apply ResL.cons (Res1.tmp (by (try simp only [List.getD_cons_succ,List.getD_cons_zero]);exact rfl))|exact ClsC.nil|exact ClsL.nil|apply ClsC.nl|apply ClsC.leaf rfl|apply ClsC.hd rfl|apply ClsC.ob rfl|apply ClsC.mo rfl|apply ClsC.mp rfl|apply ClsC.hp rfl|apply ClsC.fn|apply ClsR.tu|apply ClsL.cons|apply ClsV.ag|exact ClsV.bp|exact ClsV.fs|exact ClsV.one (ClsC.leaf rfl ClsC.nil)|exact ClsV.one (ClsC.nl ClsC.nil)|exact ClsV.one (ClsC.hd rfl ClsC.nil)|apply ClsR.one|exact Out.nil|apply Out.cons rfl|apply Out.r rfl|apply Out.f rfl|exact hks_of rfl|exact ClsV.fn));all_goals fail))
    (hk:∀ i,i < n.length→ks[i]? = some (i,0):=by exact hks_of rfl) (hkk:kOk n bs'=true:=by exact rfl):RetQ F n Q e s:=.mk2 he hl hc hr ho hk hkk hq
end
theorem Gh.W {t:List AV} {b:List Sl} (h:Wks s ⟨t,b⟩:=by ((try simp only [setT,deT,setB,List.set_cons_succ,List.set_cons_zero]);(refine ⟨?_,?_⟩<;>(try dsimp only)<;>(repeat' (first|exact Wk.nil|exact WkB.nil|apply Wk.same|apply Wk.de|apply Wk.nl|apply WkB.same|apply WkB.drop)));all_goals fail)):Gh s ⟨t,b⟩:=gh_wk h
end
/-! steps of the code that turn nothing -/
theorem CP.go {G G':Prop} (K:G') (h:G'→G:=by (intro k;(with_reducible first|refine cp_block ?_|refine cp_exit ?_|refine cp_ret ?_|refine cp_skip ?_|refine cp_seq ?_|refine inB_hit ?_|refine inB_n ?_|refine inB_r ?_|refine thenQ_n ?_|refine thenQ_r ?_|refine thenQ_e ?_|refine cpn_succ ?_|refine inB_miss rfl ?_);(repeat (with_reducible first|refine cp_block ?_|refine cp_exit ?_|refine cp_ret ?_|refine cp_skip ?_|refine cp_seq ?_|refine inB_hit ?_|refine inB_n ?_|refine inB_r ?_|refine thenQ_n ?_|refine thenQ_r ?_|refine thenQ_e ?_|refine cpn_succ ?_|refine inB_miss rfl ?_));exact k)):G:=h K
theorem CP.W {G G':Prop} (K:G') (h:G'→G:=by (intro k;first|(with_reducible apply CP.k_reg1;exact cp_region k)|(with_reducible apply CP.k_cond;first|exact cp_condT rfl k|exact cp_condF rfl k)|exact CP.go k)):G:=h K
/-! drawn regions -/
section
variable {s:AS} {ops:Array Oper} {all:List Oper} {K:AS→Prop} {acc:List Fp} {l:List Oper} {av:AV} {op:Op} {ty:Nat} {pos:String} {aft:Array Edge} {g:Option (Nat×Bool)} {d:Nat} {T:List Nat} {F:List Nat} {b2:List Sl} {r:Bool}
theorem DW.R (hk:DW Tryz.prog ops all K (⟨T,some d,F,false⟩ :: acc) l ⟨s.t.set d av,s.b⟩) (hg:gdS ops s g=some r:=by exact rfl) (hT:opTs ops ⟨some d,op,ty,pos,aft,g⟩=T:=by (simp only [ft,nm,Nat.reduceAdd,Nat.reduceBEq,List.getElem?_cons_zero,List.getElem?_cons_succ];exact rfl)) (hF:ftF 0 s op=F:=by (simp only [ft,nm,Nat.reduceAdd,Nat.reduceBEq,List.getElem?_cons_zero,List.getElem?_cons_succ];exact rfl)) (h:∀ X V,AP Tryz.prog X ops (fun e s'=>e=.normal∧s'=⟨(msT T 0 s.t).set d av,msB F V 0 s.b⟩) [⟨some d,op,ty,pos,aft,g⟩] ⟨msT T 0 s.t,msB F V 0 s.b⟩:=by (intro X V;simp only [ft,nm,Nat.reduceAdd,Nat.reduceBEq];(first|refine AP.S ?_|((try (refine AP.Y ?_;dsimp only));first|refine AP.E ?_|refine AP.T ?_|refine AP.F ?_|refine AP.F0 ?_));(try refine NX ?_);refine AP.nil ?_;first|exact ⟨trivial,rfl⟩|exact ⟨rfl,rfl⟩)) (hy:nyF F 0 s.b=true:=by exact rfl) :
    DW Tryz.prog ops all K acc (⟨some d,op,ty,pos,aft,g⟩ :: l) s:=DW.rd 0 hT hF h hk hy
theorem DW.R' (hk:DW Tryz.prog ops all K (⟨T,none,F,false⟩ :: acc) l s) (hg:gdS ops s g=some r:=by exact rfl) (hT:opTs ops ⟨none,op,ty,pos,aft,g⟩=T:=by (simp only [ft,nm,Nat.reduceAdd,Nat.reduceBEq,List.getElem?_cons_zero,List.getElem?_cons_succ];exact rfl)) (hF:ftF 0 s op=F:=by (simp only [ft,nm,Nat.reduceAdd,Nat.reduceBEq,List.getElem?_cons_zero,List.getElem?_cons_succ];exact rfl)) (h:∀ X V,AP Tryz.prog X ops (fun e s'=>e=.normal∧s'=⟨msT T 0 s.t,msB F V 0 s.b⟩) [⟨none,op,ty,pos,aft,g⟩] ⟨msT T 0 s.t,msB F V 0 s.b⟩:=by (intro X V;simp only [ft,nm,Nat.reduceAdd,Nat.reduceBEq];(first|refine AP.S ?_|((try (refine AP.Y ?_;dsimp only));refine AP.E ?_));(try refine NX ?_);refine AP.nil ?_;first|exact ⟨trivial,rfl⟩|exact ⟨rfl,rfl⟩)) (hy:nyF F 0 s.b=true:=by exact rfl) :
    DW Tryz.prog ops all K acc (⟨none,op,ty,pos,aft,g⟩ :: l) s:=DW.rdN 0 hT hF h hk hy
theorem DW.W (hk:DW Tryz.prog ops all K (⟨T,some d,F,true⟩ :: acc) l ⟨s.t.set d av,b2⟩) (hg:gdS ops s g=some r:=by exact rfl) (hT:opTs ops ⟨some d,op,ty,pos,aft,g⟩=T:=by (simp only [ft,nm,Nat.reduceAdd,Nat.reduceBEq,List.getElem?_cons_zero,List.getElem?_cons_succ];exact rfl)) (hF:ftF 1 s op=F:=by (simp only [ft,nm,Nat.reduceAdd,Nat.reduceBEq,List.getElem?_cons_zero,List.getElem?_cons_succ];exact rfl)) (h:∀ X V,AP Tryz.prog X ops (fun e s'=>e=.normal∧s'.t=(msT T 0 s.t).set d av∧Mg F V 0 s.b s'.b b2) [⟨some d,op,ty,pos,aft,g⟩] ⟨msT T 0 s.t,msB F V 0 s.b⟩:=by (intro X V;simp only [ft,nm,Nat.reduceAdd,Nat.reduceBEq];(first|refine AP.S ?_|((try (refine AP.Y ?_;dsimp only));first|refine AP.E ?_|refine AP.T ?_));(try refine NX ?_);refine AP.nil ?_;(first|refine ⟨trivial,rfl,?_⟩|refine ⟨rfl,rfl,?_⟩);(repeat' (first|exact Mg.nil|apply Mg.keep rfl|apply Mg.take rfl));all_goals fail))
    (hb:(∃ V:Nat→Nat,∃ b1,Mg F V 0 s.b b1 b2):=by (refine Exists.intro (fun _=>0) ?_;apply Exists.intro;(repeat' (first|exact Mg.nil|apply Mg.keep rfl|apply Mg.take rfl));all_goals fail)) (hy:nyF F 0 s.b=true:=by exact rfl) (hy2:nyF F 0 b2=true:=by exact rfl):DW Tryz.prog ops all K acc (⟨some d,op,ty,pos,aft,g⟩ :: l) s:=DW.st 1 hT hF h hb hk hy hy2
theorem DW.W' (hk:DW Tryz.prog ops all K (⟨T,none,F,true⟩ :: acc) l ⟨s.t,b2⟩) (hg:gdS ops s g=some r:=by exact rfl) (hT:opTs ops ⟨none,op,ty,pos,aft,g⟩=T:=by (simp only [ft,nm,Nat.reduceAdd,Nat.reduceBEq,List.getElem?_cons_zero,List.getElem?_cons_succ];exact rfl)) (hF:ftF 1 s op=F:=by (simp only [ft,nm,Nat.reduceAdd,Nat.reduceBEq,List.getElem?_cons_zero,List.getElem?_cons_succ];exact rfl)) (h:∀ X V,AP Tryz.prog X ops (fun e s'=>e=.normal∧s'.t=msT T 0 s.t∧Mg F V 0 s.b s'.b b2) [⟨none,op,ty,pos,aft,g⟩] ⟨msT T 0 s.t,msB F V 0 s.b⟩:=by (intro X V;simp only [ft,nm,Nat.reduceAdd,Nat.reduceBEq];(first|refine AP.S ?_|((try (refine AP.Y ?_;dsimp only));first|refine AP.E ?_|refine AP.T ?_));(try refine NX ?_);refine AP.nil ?_;(first|refine ⟨trivial,rfl,?_⟩|refine ⟨rfl,rfl,?_⟩);(repeat' (first|exact Mg.nil|apply Mg.keep rfl|apply Mg.take rfl));all_goals fail))
    (hb:(∃ V:Nat→Nat,∃ b1,Mg F V 0 s.b b1 b2):=by (refine Exists.intro (fun _=>0) ?_;apply Exists.intro;(repeat' (first|exact Mg.nil|apply Mg.keep rfl|apply Mg.take rfl));all_goals fail)) (hy:nyF F 0 s.b=true:=by exact rfl) (hy2:nyF F 0 b2=true:=by exact rfl):DW Tryz.prog ops all K acc (⟨none,op,ty,pos,aft,g⟩ :: l) s:=DW.stN 1 hT hF h hb hk hy hy2
theorem DW.A (m:Nat) (hk:DW Tryz.prog ops all K (⟨T,some d,F,true⟩ :: acc) l ⟨s.t.set d av,b2⟩) (hg:gdS ops s g=some r:=by exact rfl) (hT:opTs ops ⟨some d,op,ty,pos,aft,g⟩=T:=by (simp only [ft,nm,Nat.reduceAdd,Nat.reduceBEq,List.getElem?_cons_zero,List.getElem?_cons_succ];exact rfl)) (hF:ftF m s op=F:=by (simp only [ft,nm,Nat.reduceAdd,Nat.reduceBEq,List.getElem?_cons_zero,List.getElem?_cons_succ];exact rfl)) (h:∀ X V,AP Tryz.prog X ops (fun e s'=>e=.normal∧s'.t=(msT T 0 s.t).set d av∧Mg F V 0 s.b s'.b b2) [⟨some d,op,ty,pos,aft,g⟩] ⟨msT T 0 s.t,msB F V 0 s.b⟩:=by (intro X V;simp only [ft,nm,Nat.reduceAdd,Nat.reduceBEq];(try (refine AP.Y ?_;dsimp only));(first|refine AP.A ?_|refine AP.AB 0 ?_|refine AP.AB 1 ?_|refine AP.AL ?_);(try refine NX ?_);refine AP.nil ?_;(first|refine ⟨trivial,rfl,?_⟩|refine ⟨rfl,rfl,?_⟩);(repeat' (first|exact Mg.nil|apply Mg.keep rfl|apply Mg.take rfl));all_goals fail))
    (hb:(∃ V:Nat→Nat,∃ b1,Mg F V 0 s.b b1 b2):=by (refine Exists.intro (fun _=>0) ?_;apply Exists.intro;(repeat' (first|exact Mg.nil|apply Mg.keep rfl|apply Mg.take rfl));all_goals fail)) (hy:nyF F 0 s.b=true:=by exact rfl) (hy2:nyF F 0 b2=true:=by exact rfl):DW Tryz.prog ops all K acc (⟨some d,op,ty,pos,aft,g⟩ :: l) s:=DW.st m hT hF h hb hk hy hy2
theorem DW.A' (m:Nat) (hk:DW Tryz.prog ops all K (⟨T,none,F,true⟩ :: acc) l ⟨s.t,b2⟩) (hg:gdS ops s g=some r:=by exact rfl) (hT:opTs ops ⟨none,op,ty,pos,aft,g⟩=T:=by (simp only [ft,nm,Nat.reduceAdd,Nat.reduceBEq,List.getElem?_cons_zero,List.getElem?_cons_succ];exact rfl)) (hF:ftF m s op=F:=by (simp only [ft,nm,Nat.reduceAdd,Nat.reduceBEq,List.getElem?_cons_zero,List.getElem?_cons_succ];exact rfl)) (h:∀ X V,AP Tryz.prog X ops (fun e s'=>e=.normal∧s'.t=msT T 0 s.t∧Mg F V 0 s.b s'.b b2) [⟨none,op,ty,pos,aft,g⟩] ⟨msT T 0 s.t,msB F V 0 s.b⟩:=by (intro X V;simp only [ft,nm,Nat.reduceAdd,Nat.reduceBEq];(try (refine AP.Y ?_;dsimp only));(first|refine AP.A ?_|refine AP.AB 0 ?_|refine AP.AB 1 ?_|refine AP.AL ?_);(try refine NX ?_);refine AP.nil ?_;(first|refine ⟨trivial,rfl,?_⟩|refine ⟨rfl,rfl,?_⟩);(repeat' (first|exact Mg.nil|apply Mg.keep rfl|apply Mg.take rfl));all_goals fail))
    (hb:(∃ V:Nat→Nat,∃ b1,Mg F V 0 s.b b1 b2):=by (refine Exists.intro (fun _=>0) ?_;apply Exists.intro;(repeat' (first|exact Mg.nil|apply Mg.keep rfl|apply Mg.take rfl));all_goals fail)) (hy:nyF F 0 s.b=true:=by exact rfl) (hy2:nyF F 0 b2=true:=by exact rfl):DW Tryz.prog ops all K acc (⟨none,op,ty,pos,aft,g⟩ :: l) s:=DW.stN m hT hF h hb hk hy hy2
theorem DW.RA (hk:DW Tryz.prog ops all K (⟨T,some d,F,false⟩ :: acc) l ⟨s.t.set d av,s.b⟩) (hg:gdS ops s g=some r:=by exact rfl) (hT:opTs ops ⟨some d,op,ty,pos,aft,g⟩=T:=by (simp only [ft,nm,Nat.reduceAdd,Nat.reduceBEq,List.getElem?_cons_zero,List.getElem?_cons_succ];exact rfl)) (hF:ftF 0 s op=F:=by (simp only [ft,nm,Nat.reduceAdd,Nat.reduceBEq,List.getElem?_cons_zero,List.getElem?_cons_succ];exact rfl)) (h:∀ X V,AP Tryz.prog X ops (fun e s'=>e=.normal∧s'=⟨(msT T 0 s.t).set d av,msB F V 0 s.b⟩) [⟨some d,op,ty,pos,aft,g⟩] ⟨msT T 0 s.t,msB F V 0 s.b⟩:=by (intro X V;simp only [ft,nm,Nat.reduceAdd,Nat.reduceBEq];(try (refine AP.Y ?_;dsimp only));(first|refine AP.A ?_|refine AP.AB 0 ?_|refine AP.AL ?_);(try refine NX ?_);refine AP.nil ?_;first|exact ⟨trivial,rfl⟩|exact ⟨rfl,rfl⟩)) (hy:nyF F 0 s.b=true:=by exact rfl) :
    DW Tryz.prog ops all K acc (⟨some d,op,ty,pos,aft,g⟩ :: l) s:=DW.rd 0 hT hF h hk hy
theorem DW.G {o:Oper} {j:Nat} {b c:Bool} (h1:c=true→DW Tryz.prog ops all K acc (o :: l) ⟨s.t.set d (.sc (.bool true)),s.b⟩) (h2:c=false→DW Tryz.prog ops all K acc (o :: l) ⟨s.t.set d (.sc (.bool false)),s.b⟩) (hg:o.guard=some (j,b):=by exact rfl) (hd:(ops[j]?).bind (·.dst)=some d:=by exact rfl) (hs:s.t.getD d .de=.sc (.bool c):=by exact rfl):DW Tryz.prog ops all K acc (o :: l) s:=DW.split hg hd hs h1 h2
theorem DW.nl (hk:K s) (h:okD all acc.reverse=true:=by kernel_rfl):DW Tryz.prog ops all K acc [] s:=DW.nil h hk
end
theorem cp_drwX {X:Cx} {s:AS} {Q:Exit→AS→Prop} {id:Nat} {l:List Oper} {y:Code} (h:∀ Q':AS→Prop,(∀ s',CP Tryz.prog X y Q s'→Q' s')→DW Tryz.prog l.toArray l Q' [] l s) (hm:Tryz.prog.follows .mixedOrders=true:=by kernel_rfl) (hf:fwdB 0 l=true:=by kernel_rfl):CP Tryz.prog X (.seq (.region id l.toArray true) y) Q s:=cp_drwW hm hf h
theorem cp_drawX {X:Cx} {s:AS} {Q:Exit→AS→Prop} {id:Nat} {l:List Oper} (h:DW Tryz.prog l.toArray l (fun s'=>Q .normal s') [] l s) (hm:Tryz.prog.follows .mixedOrders=true:=by kernel_rfl) (hf:fwdB 0 l=true:=by kernel_rfl):CP Tryz.prog X (.region id l.toArray true) Q s:=cp_drawW hm hf h
end Go.Proofs.YtdjngjjjdkdfkaaGreat

namespace Go.Proofs.YtdjngjjjdkdfkaaGreat
set_option linter.unusedVariables false
set_option linter.unusedSimpArgs false
open Go.RowKit
set_option maxRecDepth 100000
/-- no address, no map, no slice -/
abbrev np:AV:=.sc (.pointer none)
abbrev nsl:AV:=.sc (.slice none 0 0)
inductive Sh where
  | i (k:IntKind)
  | b
  | s
deriving DecidableEq
def aggT (P:Program) (t:TypeId):Bool:=match P.underlying t with
  | some (.struct _)|some (.array _ _)=>true
  | _=>false
section
variable {P:Program}
end
section
variable {X:Cx} {s:AS} {ops:Array Oper} {rest:List Oper} {Q:Exit→AS→Prop} {Qa:AS→Prop} {d:Option Nat} {ty:Nat} {pos:String} {aft:Array Edge} {op:BinOp} {T T':TypeId} {x y:Operand} {l l':List AV} {vs us:List Value} {r:Bool}
end
end Go.Proofs.YtdjngjjjdkdfkaaGreat

namespace Go.Proofs.YtdjngjjjdkdfkaaGreat
set_option linter.unusedVariables false
set_option linter.unusedSimpArgs false
open Go.RowKit
set_option maxRecDepth 100000
/-- where a field of one cell lies -/
def fieldOff (P:Program) (T:TypeId) (n:Nat):Option Nat:=match P.underlying T with
  | some (.struct fs)=>match fs[n]? with
    | some f=>match P.underlying f.type,aggT P f.type with
      | some _,false=>some f.offset
      | _,_=>none
    | none=>none
  | _=>none
theorem run_fieldv {P:Program} {T:TypeId} {n off:Nat} {vs:List Value} {v:Value} (h:fieldOff P T n=some off) (hv:vs[off]? = some v) (w:World):(Instr.field T (.agg vs.toArray) n).run P w=.ok v w:=by
  unfold fieldOff at h
  split at h<;>try cases h
  rename_i fs hu
  split at h<;>try cases h
  rename_i f hf
  split at h<;>try cases h
  rename_i kd hk hA
  have hi:(isAgg f.type).run P w=.ok false w:=by
    unfold aggT at hA
    rw [hk] at hA
    cases kd<;>simp at hA<;>simp [isAgg,Sem.run_bind,run_underlying hk,Result.andThen_ok]
  simp [Instr.field,Sem.run_bind,run_underlying hu,Result.andThen_ok,hf,part,hi,asAgg,hv]
theorem pq_fieldv {X:Cx} {s:AS} {o:Oper} {T:TypeId} {n off:Nat} {x:Operand} {l:List AV} {av:AV} (ho:o.op=.field T x n) (hx:aev s x=.ag l) (hf:fieldOff Tryz.prog T n=some off) (hl:l[off]? = some av):Pq Tryz.prog X s o av:=.of_run fun X φ κ f a w hs=>by
  have h1:=hs.evs hx
  generalize hv:a.eval x=v at h1
  cases h1 with
  | ag hc _=>
    obtain ⟨u,hu,hr⟩:=hc.at_ hl
    refine ⟨u,hr,fun w' _=>?_⟩
    simp only [execOp,ho,hv,Sem.run_bind,run_fieldv hf hu w']
    simp [go_sem]
theorem AP.FV {X:Cx} {s:AS} {ops:Array Oper} {rest:List Oper} {Q:Exit→AS→Prop} {T:TypeId} {n off z:Nat} {x:Operand} {l:List AV} {av:AV} {d:Option Nat} {ty:Nat} {pos:String} {aft:Array Edge} {i:TI} {fl:List (Nat×Nat)} (K:AP Tryz.prog X ops Q rest (s.put d av)) (hx:aev s x=.ag l:=by exact rfl) (hT:tt[T]? = some i:=by exact rfl) (hk:i.kd=.st fl:=by exact rfl) (hn:fl[n]? = some (off,z):=by exact rfl) (hf:fieldOff Tryz.prog T n=some off:=by kernel_rfl) (hl:l[off]? = some av:=by exact rfl):AP Tryz.prog X ops Q (⟨d,.field T x n,ty,pos,aft,none⟩ :: rest) s:=
  AP.pure rfl (pq_fieldv rfl hx hf hl) K
end Go.Proofs.YtdjngjjjdkdfkaaGreat

namespace Go.Proofs.YtdjngjjjdkdfkaaGreat
set_option linter.unusedVariables false
set_option linter.unusedSimpArgs false
open Go.RowKit
set_option maxRecDepth 100000
structure Member where
  node:Int
  since:Int
  whole:Bool
structure Config where
  epoch:Int
  members:List Member
structure Book where
  cfg:Config
  since:Int
  whole:Bool
  upto:Int
structure Entry where
  pos:Int
  stamp:Int
  client:Int
  id:Int
  body:List UInt8
structure Record where
  kind:UInt8
  book:Book
  drop:Bool
  entry:Entry
structure Life where
  book:Book
  boot:Int
  log:List Entry
abbrev eM (m:Member):List AV:=[I m.node,I m.since,B m.whole]
abbrev ms (o:Option TypeId) (l:List Member):AV:=.sl o 3 (l.map eM)
abbrev eC (o:Option TypeId) (c:Config):List AV:=[I c.epoch,ms o c.members]
abbrev eE (o:Option TypeId) (e:Entry):List AV:=[I e.pos,I e.stamp,I e.client,I e.id,bs o e.body]
abbrev es (o q:Option TypeId) (l:List Entry):AV:=.sl o 5 (l.map (eE q))
theorem nr_M {e k:Nat} {l:List Member}:NR (.sl (some e) k (l.map eM)):=NR.leafs fun x a ha=>by simp [eM] at ha;rcases ha with rfl|rfl|rfl<;>exact .sc
theorem nr_E {e k q:Nat} {l:List Entry}:NR (.sl (some e) k (l.map (eE (some q)))):=NR.leafs fun x a ha=>by
  simp [eE] at ha;rcases ha with rfl|rfl|rfl|rfl|rfl<;>first|exact .sc|exact nr_B
theorem ro_M (l:List Member):roE (l.map eM)=l.map eM:=by rw [roE_map];rfl
theorem ro_E (q:Option TypeId) (l:List Entry):roE (l.map (eE q))=l.map (eE none):=by
  rw [roE_map]
  refine List.map_congr_left fun x _=>?_
  simp only [eE,roC,AV.ro,ro_B]
end Go.Proofs.YtdjngjjjdkdfkaaGreat

namespace Go.Proofs.YtdjngjjjdkdfkaaGreat
set_option linter.unusedVariables false
set_option linter.unusedSimpArgs false
open Go.RowKit
set_option maxRecDepth 100000
structure Msg where
  kind:UInt8
  client:Int
  id:Int
  body:List UInt8
  upto:Int
  frm:Int
  entries:List Entry
  have_:Int
  done:Int
  cfg:Config
  since:Int
abbrev eG (m:Msg):List AV:=[U m.kind,I m.client,I m.id,bs none m.body,I m.upto,I m.frm,es none none m.entries,I m.have_,I m.done,I m.cfg.epoch,ms none m.cfg.members,I m.since]
def Msg.small (m:Msg):Prop:=m.body.length≤100000000∧m.entries.length≤100000000∧m.cfg.members.length≤100000000∧∀ e∈m.entries,e.body.length≤100000000
end Go.Proofs.YtdjngjjjdkdfkaaGreat

namespace Go.Proofs.YtdjngjjjdkdfkaaGreat
set_option linter.unusedVariables false
set_option linter.unusedSimpArgs false
open Go.RowKit Go.ChangeShapes Go.WideShapes Go.ChangeAt Go.Deep
set_option maxRecDepth 100000
/-! bulk -/
theorem bulk_one {H:Type} (d:DataW H):1≤Rows.uptoBulk d:=by
  cases d with
  | lit l=>cases l<;>simp [Rows.uptoBulk]
  | _=>simp [Rows.uptoBulk]
theorem bulk_part {H:Type} {d:DataW H} {l:List (DataW H)} (h:d∈l):Rows.uptoBulk d≤Rows.uptoBulkAll l:=by
  induction l with
  | nil=>cases h
  | cons x r ih=>
    simp only [Rows.uptoBulkAll]
    cases List.mem_cons.1 h with
    | inl e=>subst e;omega
    | inr e=>have:=ih e;omega
theorem bulk_length {H:Type} (l:List (DataW H)):l.length≤Rows.uptoBulkAll l:=by
  induction l with
  | nil=>simp [Rows.uptoBulkAll]
  | cons x r ih=>have:=bulk_one x;simp only [Rows.uptoBulkAll,List.length_cons];omega
/-- what reads as data of a type is k cells of my data; N: its bulk -/
def OA (P:Program) (t:TypeId) (k:Nat) {α:Type} (ok:Nat→α→Prop) (e:α→List AV):Prop:=
  P.cellsOf t=k∧(∀ m n d,m≤n→ok m d→ok n d)∧∀ {H:Type} {enc:TypeId×Value→H} {w:World} {base:Nat} {fuel:Nat} {cs:List Value} {x:DataW H×List MemPlace},
    DataW.trod enc P w base (fun _=>true) true fuel t cs=some x→∃ d:α,ok (Rows.uptoBulk x.1) d∧(∀ φ κ,RC w φ κ (fun b=>b < w.heap.size) (e d) cs Ct.z)∧(∀ u∈cs,u.oneCell'=true)∧(∀ a∈e d,a.leaf=true)∧cs.length=k
section
variable {P:Program} {t e:TypeId} {α β:Type} {ok:Nat→α→Prop} {k:Nat} {en:α→List AV}
theorem OA.map (h:OA P t k ok en) (f:α→β) {ok':Nat→β→Prop} {en':β→List AV} (hm:∀ m n d,m≤n→ok' m d→ok' n d) (h1:∀ n a,ok n a→ok' n (f a)) (h2:∀ a,en' (f a)=en a):OA P t k ok' en':=
  ⟨h.1,hm,fun hx=>by
    obtain ⟨d,a,b,c⟩:=h.2.2 hx
    exact ⟨f d,h1 _ _ a,by rw [h2];exact b,by rw [h2];exact c⟩⟩
theorem OA.wmap (h:OA P t k ok en) (f:α→β) {ok':Nat→β→Prop} {en':β→List AV} (hm:∀ m n d,m≤n→ok' m d→ok' n d) (h1:∀ n a,ok n a→ok' n (f a)) (h2:∀ n a,ok n a→en' (f a)=en a):OA P t k ok' en':=
  ⟨h.1,hm,fun hx=>by
    obtain ⟨d,a,b,c⟩:=h.2.2 hx
    exact ⟨f d,h1 _ _ a,by rw [h2 _ _ a];exact b,by rw [h2 _ _ a];exact c⟩⟩
theorem RC.one_ {w:World} {φ:Fi} {κ:Ka} {R:Nat→Prop} {a:AV} {v:Value} (h:RV w φ κ R a v Ct.z):RC w φ κ R [a] [v] Ct.z:=.cons (S:=Ct.z) (T:=Ct.z) h .nil fun _=>rfl
theorem oa_int {κ:IntKind} (ht:P.underlying t=some (.int κ)) (hc:P.cellsOf t=1):OA P t 1 (fun _ (n:Int)=>(Lit.int κ n).wf=true) (fun n=>[.sc (.int κ n)]):=
  ⟨hc,fun _ _ _ _ h=>h,fun h=>by
    obtain ⟨n,rfl,_,hw⟩:=DataW.trod_int ht h
    exact ⟨n,hw,fun _ _=>RC.one_ (.sc rfl),fun u hu=>by simp at hu;subst hu;rfl,fun a ha=>by simp at ha;subst ha;rfl,rfl⟩⟩
theorem oa_bool (ht:P.underlying t=some .bool) (hc:P.cellsOf t=1):OA P t 1 (fun _ (_:Bool)=>True) (fun n=>[.sc (.bool n)]):=
  ⟨hc,fun _ _ _ _ h=>h,fun h=>by
    obtain ⟨n,rfl,_⟩:=DataW.trod_bool ht h
    exact ⟨n,trivial,fun _ _=>RC.one_ (.sc rfl),fun u hu=>by simp at hu;subst hu;rfl,fun a ha=>by simp at ha;subst ha;rfl,rfl⟩⟩
theorem RE.of_rows {w:World} {φ:Fi} {κ:Ka} {R:Nat→Prop} {k:Nat} {en:α→List AV} {l:List α} (css:Nat→List Value) (h:∀ i x,l[i]? = some x→RC w φ κ R (en x) (css i) Ct.z∧(∀ u∈css i,u.oneCell'=true)∧(∀ a∈en x,a.leaf=true)∧(css i).length=k) :
    RE w φ κ R k (l.map en) ((List.range l.length).flatMap css) Ct.z:=by
  induction l generalizing css with
  | nil=>exact .nil
  | cons x l ih=>
    have h0:=h 0 x rfl
    have h1:=ih (fun i=>css (i + 1)) fun i y hy=>h (i + 1) y (by simpa using hy)
    rw [List.length_cons,List.range_succ_eq_map,List.flatMap_cons,List.flatMap_map]
    exact .cons (S:=Ct.z) (T:=Ct.z) h0.1 h0.2.2.2 ⟨h0.2.1,h0.2.2.1⟩ h1 fun _=>rfl
theorem flat_at {css:Nat→List Value} {k n:Nat} (h:∀ i,i < n→(css i).length=k):∀ {j:Nat} {u:Value},((List.range n).flatMap css)[j]? = some u→∃ i r,i < n∧j=i * k + r∧(css i)[r]? = some u:=by
  induction n generalizing css with
  | zero=>intro j u hj;simp at hj
  | succ n ih=>
    intro j u hj
    rw [List.range_succ_eq_map,List.flatMap_cons,List.flatMap_map] at hj
    have h0:=h 0 (by omega)
    by_cases hjk:j < k
    · rw [List.getElem?_append_left (by omega)] at hj
      exact ⟨0,j,by omega,by omega,hj⟩
    · rw [List.getElem?_append_right (by omega)] at hj
      obtain ⟨i,r,hi,hr,hu⟩:=ih (css:=fun i=>css (i + 1)) (fun i hi=>h (i + 1) (by omega)) hj
      refine ⟨i + 1,r,by omega,?_,hu⟩
      rw [Nat.add_mul];omega
theorem spot_none {w:World} {a:Addr} {u:Value} (h:w.cell? (a.add 0)=some u):a.spot=none:=by
  obtain ⟨ab,ao,asp⟩:=a
  cases hsp:asp with
  | none=>rfl
  | some s=>
    rw [hsp] at h
    simp [Addr.add,World.cell?] at h
    split at h<;>simp at h
theorem oa_slice (hk:0 < k) (ht:P.underlying t=some (.slice e)) (hc:P.cellsOf t=1) (hE:OA P e k ok en):OA P t 1 (fun N (l:List α)=>(∀ x∈l,ok N x)∧l.length < N) (fun l=>[.sl none k (l.map en)]):=by
  refine ⟨hc,fun m n d h k=>⟨fun x hx=>hE.2.1 _ _ _ h (k.1 x hx),Nat.lt_of_lt_of_le k.2 h⟩,?_⟩
  intro H enc w base fuel cs x h
  rcases open_slice ht h with ⟨rfl,rfl⟩|⟨a,len,cap,m,n,D,Pl,rfl,hb,hl,hm,hmm,hx,hi⟩
  · exact ⟨[],⟨fun x hx=>by simp at hx,by simp [Rows.uptoBulk]⟩,fun _ _=>RC.one_ .ni,fun u hu=>by simp at hu;subst hu;rfl,fun a ha=>by simp at ha;subst ha;rfl,rfl⟩
  · obtain rfl:m=cap:=by simpa using hmm
    clear hmm
    have hbulk:∀ i,i < len→Rows.uptoBulk (D i)≤Rows.uptoBulk x.1:=by
      intro i hi
      rw [hx]
      have:=bulk_part (d:=D i) (l:=(List.range len).map D) (List.mem_map.2 ⟨i,List.mem_range.2 hi,rfl⟩)
      simp only [Rows.uptoBulk]
      omega
    have hlenb:len < Rows.uptoBulk x.1:=by
      rw [hx]
      have:=bulk_length ((List.range len).map D)
      simp only [Rows.uptoBulk]
      simp only [List.length_map,List.length_range] at this
      omega
    have hall:∀ i,i < len→∃ (d:α) (cs':List Value),(ok (Rows.uptoBulk x.1) d∧(∀ φ κ,RC w φ κ (fun b=>b < w.heap.size) (en d) cs' Ct.z)∧(∀ u∈cs',u.oneCell'=true)∧(∀ a∈en d,a.leaf=true)∧cs'.length=k)∧∀ j u,cs'[j]? = some u→w.cell? ((a.add (i * k)).add j)=some u:=by
      intro i hil
      obtain ⟨cs',hcs,htr⟩:=hi i (by omega)
      obtain ⟨d,hd0,hd⟩:=hE.2.2 htr
      rw [hE.1] at hcs
      obtain ⟨_,hlen,hat⟩:=World.cells?_some hcs
      exact ⟨d,cs',⟨hE.2.1 _ _ _ (hbulk i hil) hd0,hd⟩,fun j u hu=>(hat j (by have:=(List.getElem?_eq_some_iff.1 hu).1;omega)).trans hu⟩
    have hsp0:0 < m→a.spot=none:=by
      intro h0
      obtain ⟨cs',hcs,_⟩:=hi 0 h0
      rw [hE.1] at hcs
      obtain ⟨_,hlen,hat⟩:=World.cells?_some hcs
      have hz:=hat 0 (by omega)
      rw [List.getElem?_eq_getElem (by omega)] at hz
      have e0:a.add (0 * k)=a:=by simp [Addr.add]
      rw [e0] at hz
      exact spot_none hz
    have hex:∃ (l:List α) (css:Nat→List Value),l.length=len∧∀ i y,l[i]? = some y→(ok (Rows.uptoBulk x.1) y∧(∀ φ κ,RC w φ κ (fun b=>b < w.heap.size) (en y) (css i) Ct.z)∧(∀ u∈css i,u.oneCell'=true)∧(∀ a∈en y,a.leaf=true)∧(css i).length=k)∧∀ j u,(css i)[j]? = some u→w.cell? ((a.add (i * k)).add j)=some u:=by
      clear hi hbulk hlenb h hx
      revert hall
      clear hl
      induction len with
      | zero=>exact fun _=>⟨[],fun _=>[],rfl,fun i x h=>by simp at h⟩
      | succ q ih=>
        intro hall
        obtain ⟨l,css,hl,hq⟩:=ih (fun i hi=>hall i (by omega))
        obtain ⟨d,cs',hd,hcs⟩:=hall q (by omega)
        refine ⟨l ++ [d],fun i=>if i=q then cs' else css i,by simp [hl],fun i x hx=>?_⟩
        by_cases hik:i < q
        · rw [List.getElem?_append_left (by omega)] at hx
          simp only [show i≠q by omega,if_false]
          exact hq i x hx
        · have hik':i=q:=by have:=(List.getElem?_eq_some_iff.1 hx).1;simp at this;omega
          subst hik'
          rw [List.getElem?_append_right (by omega),hl] at hx
          simp at hx
          subst hx
          simp only [if_true]
          exact ⟨hd,hcs⟩
    obtain ⟨l,css,hll,hq⟩:=hex
    refine ⟨l,⟨fun y hy=>?_,by omega⟩,fun φ κ=>?_,fun u hu=>by simp at hu;subst hu;rfl,fun a ha=>by simp at ha;subst ha;rfl,rfl⟩
    · obtain ⟨i,hi,rfl⟩:=List.mem_iff_getElem.1 hy
      exact (hq i _ (List.getElem?_eq_getElem hi)).1.1
    · refine RC.one_ ?_
      subst hll
      by_cases h0:m=0
      · subst h0
        obtain rfl:l=[]:=List.eq_nil_of_length_eq_zero (by omega)
        exact .ne
      · obtain ⟨ab,ao,asp⟩:=a
        have hspn:=hsp0 (by omega)
        simp only at hspn
        subst hspn
        have hflat:∀ j u,((List.range l.length).flatMap css)[j]? = some u→w.cell? ⟨ab,ao + j,none⟩=some u:=by
          intro j u hj
          obtain ⟨i,r,hi,rfl,hu⟩:=flat_at (k:=k) (fun i hi=>(hq i _ (List.getElem?_eq_getElem hi)).1.2.2.2.2) hj
          have:=(hq i _ (List.getElem?_eq_getElem hi)).2 r u hu
          have e1:(Addr.add (Addr.add ⟨ab,ao,none⟩ (i * k)) r)=⟨ab,ao + (i * k + r),none⟩:=by
            unfold Addr.add
            split<;>split<;>simp_all [Nat.add_assoc]
          rw [e1] at this
          exact this
        have hE':RE w φ κ (fun b=>b < w.heap.size) k (l.map en) ((List.range l.length).flatMap css) Ct.z:=RE.of_rows css fun i x hx=>⟨(hq i x hx).1.2.1 φ κ,(hq i x hx).1.2.2⟩
        have:=RV.ro (c:=m) (b:=ab) (o:=ao) hE' (by simp;omega) hm (fun hne=>by
          have hl0:0 < l.length:=by cases l with
            | nil=>exact absurd rfl hne
            | cons _ _=>simp
          have hc0:=(hq 0 _ (List.getElem?_eq_getElem hl0)).1.2.2.2.2
          have hz:=(hq 0 _ (List.getElem?_eq_getElem hl0)).2 0 _ (List.getElem?_eq_getElem (by omega))
          simp only [Addr.add,Nat.zero_mul,if_true,World.cell?] at hz
          cases hh:w.heap[ab]? with
          | none=>simp [hh] at hz
          | some o=>exact (Array.getElem?_eq_some_iff.1 hh).1) hflat
        simpa using this
/-- fields from an offset on -/
def OFs (P:Program) (fs:List Field) (off k:Nat) {α:Type} (ok:Nat→α→Prop) (e:α→List AV):Prop:=
  (∀ m n d,m≤n→ok m d→ok n d)∧∀ {H:Type} {enc:TypeId×Value→H} {w:World} {base:Nat} {cs:List Value} {N:Nat},
    (∀ f∈fs,∃ n y,DataW.trod enc P w base (fun _=>true) true n f.type ((cs.drop f.offset).take (P.cellsOf f.type))=some y∧Rows.uptoBulk y.1≤N)→off + k≤cs.length →
    ∃ d:α,ok N d∧(∀ φ κ,RC w φ κ (fun b=>b < w.heap.size) (e d) ((cs.drop off).take k) Ct.z)∧(∀ u∈(cs.drop off).take k,u.oneCell'=true)∧(∀ a∈e d,a.leaf=true)
theorem of_nil {off:Nat}:OFs P [] off 0 (fun _ (_:Unit)=>True) (fun _=>[]):=
  ⟨fun _ _ _ _ _=>trivial,fun {H enc w base cs N} _ _=>⟨(),trivial,fun φ κ=>by simp;exact .nil,fun u hu=>by simp at hu,fun a ha=>by cases ha⟩⟩
theorem of_cons {f:Field} {fs:List Field} {off k2:Nat} {ok2:Nat→β→Prop} {en2:β→List AV} (hoff:f.offset=off) (h1:OA P f.type k ok en) (h2:OFs P fs (off + k) k2 ok2 en2) :
    OFs P (f :: fs) off (k + k2) (fun N (d:α×β)=>ok N d.1∧ok2 N d.2) (fun d=>en d.1 ++ en2 d.2):=
  ⟨fun m n d h k=>⟨h1.2.1 _ _ _ h k.1,h2.1 _ _ _ h k.2⟩,fun {H enc w base cs N} hf hl=>by
    subst hoff
    obtain ⟨n,y,hy,hyb⟩:=hf f (by simp)
    rw [h1.1] at hy
    obtain ⟨a,a1,a2,a3,a4,a5⟩:=h1.2.2 hy
    obtain ⟨b,b1,b2,b3,b4⟩:=h2.2 (cs:=cs) (N:=N) (fun g hg=>hf g (by simp [hg])) (by omega)
    have e0:(cs.drop f.offset).take (k + k2)=(cs.drop f.offset).take k ++ (cs.drop (f.offset + k)).take k2:=by
      rw [List.take_add,List.drop_drop]
    refine ⟨(a,b),⟨h1.2.1 _ _ _ hyb a1,b1⟩,fun φ κ=>?_,fun u hu=>?_,fun x hx=>?_⟩
    · rw [e0];exact (a2 φ κ).append (b2 φ κ) fun _=>rfl
    · rw [e0] at hu;exact (List.mem_append.1 hu).elim (a3 u) (b3 u)
    · exact (List.mem_append.1 hx).elim (a4 x) (b4 x)⟩
theorem oa_struct {fs:Array Field} (ht:P.underlying t=some (.struct fs)) (hc:P.cellsOf t=k) (h:OFs P fs.toList 0 k ok en):OA P t k ok en:=
  ⟨hc,h.1,fun {H enc w base fuel cs x} hx=>by
    obtain ⟨xs,n,_,hxx,hl,hn,hg⟩:=DataW.trod_struct ht hx
    obtain ⟨d,d1,d2,d3,d4⟩:=h.2 (cs:=cs) (N:=Rows.uptoBulk x.1) (fun f hf=>by
      obtain ⟨i,hi,rfl⟩:=List.mem_iff_getElem.1 hf
      have hi':i < fs.size:=by simpa using hi
      have:=hg i (fs.toList[i]) (by simp [hi'])
      rw [List.getElem?_eq_getElem (by omega)] at this
      refine ⟨n,_,this,?_⟩
      have hb:=bulk_part (d:=(xs[i]'(by omega)).1) (l:=xs.map (·.1)) (List.mem_map.2 ⟨_,List.getElem_mem _,rfl⟩)
      rw [hxx]
      simp only [Rows.uptoBulk]
      omega) (by omega)
    rw [hc] at hl
    have e0:(cs.drop 0).take k=cs:=by rw [List.drop_zero];exact List.take_of_length_le (by omega)
    rw [e0] at d2 d3
    exact ⟨d,d1,d2,d3,d4,hl⟩⟩
/-! arguments -/
variable {H:Type} {enc:TypeId×Value→H} {w:World} {base b0:Nat} {r:Reach} {v:Value} {d:DataW H} {p:List MemPlace}
theorem arg_ag {fs:Array Field} (ht:P.underlying t=some (.struct fs)) (hE:OA P t k ok en) (hv:Value.okWide P w r b0 t v) (h:DataW.Trod enc P w base (fun _=>true) true t v d p) :
    ∃ x,ok (Rows.uptoBulk d) x∧∀ φ κ,RV w φ κ (fun b=>b < w.heap.size) (.ag (en x)) v Ct.z:=by
  obtain ⟨cs,rfl,_⟩:=okWide_struct ht hv
  obtain ⟨fuel,hf⟩:=h
  obtain ⟨x,x1,x2,x3,_⟩:=hE.2.2 hf
  simp only [Value.cells] at x2 x3
  refine ⟨x,x1,fun φ κ=>?_⟩
  have:=RV.ag (x2 φ κ) x3
  simpa using this
/-! what was there reads as it did -/
theorem trodAll_below (hl:laidOutB P=true) {W W':World} (hb:Below W.heap.size W W') :
    ∀ (ts:List TypeId) (vs:List Value) (ds:List (DataW H)) (ps:List MemPlace),(∀ t∈ts,P.readableRec t=true∧t < P.types.size)→(∀ x∈ps,x.block < W.heap.size) →
      DataW.TrodAll enc P W 0 (fun _=>true) true ts vs ds ps→DataW.TrodAll enc P W' 0 (fun b=>decide (b < W.heap.size)) true ts vs ds ps
  | [],[],[],ps,_,_,h=>h
  | t :: ts,v :: vs,d :: ds,ps,hr,hlt,h=>by
    obtain ⟨p,q,hd,hs,rfl⟩:=h
    have hrt:=hr t (by simp)
    exact ⟨p,q,Below.trod hl hrt.1 hrt.2 hd hb fun x hx=>hlt x (by simp [hx]),trodAll_below hl hb ts vs ds q (fun t ht=>hr t (by simp [ht])) (fun x hx=>hlt x (by simp [hx])) hs,rfl⟩
  | [],_ :: _,_,_,_,_,h=>by simp [DataW.TrodAll] at h
  | [],[],_ :: _,_,_,_,h=>by simp [DataW.TrodAll] at h
  | _ :: _,[],_,_,_,_,h=>by simp [DataW.TrodAll] at h
  | _ :: _,_ :: _,[],_,_,_,h=>by simp [DataW.TrodAll] at h
/-- THE LAST STEP: the law returns true and leaves alone what was there -/
theorem law_post {f:Func} {s:ChangeSpec} {apart fresh handsOn:Bool} {W W':World} {args:Array Value} {ds gs:List (DataW H)} {before:List MemPlace} {tb:TypeId}
    (hl:laidOutB P=true) (hv:s.vars=[]) (hrt:f.resultTypes=#[tb]) (hub:P.underlying tb=some .bool) (hread:(f.params.toList.all fun t=>P.readableRec t && decide (t < P.types.size))=true)
    (hW:DataW.Whole enc P f.params.toList s.vars apart W args.toList ds gs before) (hfn:∀ gs',gs'=[]→s.fn H (ds ++ gs')={ results:=[.lit (.bool true)],args:=ds }) (hb:Below W.heap.size W W') :
    s.post enc P f apart fresh handsOn false W args (.bool true) W':=by
  have hread':∀ t∈f.params.toList,P.readableRec t=true∧t < P.types.size:=fun t ht=>by
    have:=List.all_eq_true.1 hread t ht
    simpa using this
  have hW':=hW
  obtain ⟨p,q,hA,hV,rfl,hfz,hnd⟩:=hW
  rw [hv] at hV
  obtain ⟨rfl,rfl⟩:=trodVars_none hV
  have hlt:∀ x∈p,x.block < W.heap.size:=fun x hx=>hW'.lt x (by simpa using hx)
  refine ⟨ds,[],p ++ [],[],p,[],hW',?_,?_,?_,?_,fun h=>by cases h⟩
  · rw [hfn [] rfl,hrt]
    exact trodAll_mk1 (shut_bool hub true)
  · rw [hfn [] rfl]
    exact trodAll_below hl hb _ _ _ _ hread' hlt hA
  · rw [hv,hfn [] rfl]
    rfl
  · refine World.keptBut_mono (fun x hx=>⟨hx,.inr (.inl (by simpa using hx))⟩) (hb.frame (·∈p ++ []))
/-- a contract that tells true, in the world that the law is called in -/
theorem ac_law {fn:Nat} {args:List AV} {vs:List Value} {W:World} (h:AC P fn args [] (fun v bs'=>v=.sc (.bool true)∧bs'=[])) (ha:∀ φ κ,RC W φ κ (fun b=>b < W.heap.size) args vs Ct.z) :
    Calls P fn vs.toArray W fun e W'=>e=.returned (.bool true)∧Below W.heap.size W W':=by
  refine (h.2 W (fun _ _=>none) (fun _ _=>none) _ vs [] Ct.z Ct.z (ha _ _) .nil (fun i g B hi=>by simp at hi) (fun _ _ _=>rfl) (fun _ _ _=>rfl) (fun x=>by simp [Ct.z]) (fun x hx=>by simp [Ct.z] at hx) (fun x hx=>⟨hx,rfl⟩)).mono ?_
  rintro e W' ⟨v,r,bs',gs',Sr,Sb',φ',F,rfl,⟨rfl,rfl⟩,hr,_,_,_,_,_,_,hf⟩
  cases hr with
  | sc=>exact ⟨rfl,hf.os,hf.tape,hf.output,hf.size,fun b hb=>hf.block b hb rfl⟩
theorem bulk_of {l:List (DataW H)} (hk:Rows.uptoSmall H l=true):Rows.uptoBulkAll l≤1048576:=of_decide_eq_true hk
end
end Go.Proofs.YtdjngjjjdkdfkaaGreat

namespace Go.Proofs.YtdjngjjjdkdfkaaGreat
set_option linter.unusedVariables false
set_option linter.unusedSimpArgs false
open Go.RowKit Go.ChangeShapes Go.WideShapes Go.ChangeAt Go.Deep
set_option maxRecDepth 100000
theorem laidOut:laidOutB Tryz.prog=true:=by kernel_rfl
theorem own_knob:ownKnob Tryz.prog.godebug=none:=by kernel_rfl
def I64 (x:Int):Prop:=-9223372036854775808≤x∧x≤9223372036854775807
theorem i64_of {x:Int} (h:(Lit.int .i64 x).wf=true):I64 x:=by simpa [Lit.wf,IntKind.min,IntKind.max,IntKind.signed,IntKind.bits,I64] using h
theorem u8_of {x:Int} (h:(Lit.int .u8 x).wf=true):0≤x∧x≤255:=by simpa [Lit.wf,IntKind.min,IntKind.max,IntKind.signed,IntKind.bits] using h
theorem oi:OA Tryz.prog 3 1 (fun _ x=>I64 x) (fun x=>[I x]):=(oa_int Tryz.underlying3 (by kernel_rfl)).map id (fun _ _ _ _ h=>h) (fun _ _ h=>i64_of h) fun _=>rfl
theorem obl:OA Tryz.prog 4 1 (fun _ (_:Bool)=>True) (fun x=>[B x]):=oa_bool Tryz.underlying4 (by kernel_rfl)
theorem ou:OA Tryz.prog 5 1 (fun _ (_:UInt8)=>True) eB:=(oa_int Tryz.underlying5 (by kernel_rfl)).wmap (fun x:Int=>UInt8.ofNat x.toNat) (fun _ _ _ _ h=>h) (fun _ _ _=>trivial) fun n x hx=>by
  have h:=u8_of hx
  have e:((UInt8.ofNat x.toNat).toNat:Int)=x:=by rw [UInt8.toNat_ofNat'];omega
  simp only [eB,U,e]
theorem obs:OA Tryz.prog 22 1 (fun N (l:List UInt8)=>(∀ x∈l,True)∧l.length < N) (fun l=>[bs none l]):=oa_slice (by decide) Tryz.underlying22 (by kernel_rfl) ou
end Go.Proofs.YtdjngjjjdkdfkaaGreat

namespace Go.Proofs.YtdjngjjjdkdfkaaGreat
set_option linter.unusedVariables false
set_option linter.unusedSimpArgs false
open Go.RowKit Go.ChangeShapes Go.WideShapes Go.ChangeAt Go.Deep
set_option maxRecDepth 100000
theorem om:OA Tryz.prog 88 3 (fun _ m=>I64 m.node∧I64 m.since) eM:=
  (oa_struct Tryz.underlying88 (by kernel_rfl) (of_cons rfl oi (of_cons rfl oi (of_cons rfl obl of_nil)))).map (fun d=>⟨d.1,d.2.1,d.2.2.1⟩) (fun _ _ _ _ h=>h) (fun _ _ h=>⟨h.1,h.2.1⟩) fun _=>rfl
theorem oms:OA Tryz.prog 24 1 (fun N (l:List Member)=>(∀ m∈l,I64 m.node∧I64 m.since)∧l.length < N) (fun l=>[ms none l]):=oa_slice (by decide) Tryz.underlying24 (by kernel_rfl) om
def okC (N:Nat) (c:Config):Prop:=I64 c.epoch∧(∀ m∈c.members,I64 m.node∧I64 m.since)∧c.members.length < N
theorem okC.up {m n:Nat} {c:Config} (h:m≤n) (k:okC m c):okC n c:=⟨k.1,k.2.1,Nat.lt_of_lt_of_le k.2.2 h⟩
theorem ocf:OA Tryz.prog 26 2 okC (eC none):=
  (oa_struct Tryz.underlying26 (by kernel_rfl) (of_cons rfl oi (of_cons rfl oms of_nil))).map (fun d=>⟨d.1,d.2.1⟩) (fun _ _ _=>okC.up) (fun _ _ h=>⟨h.1,h.2.1.1,h.2.1.2⟩) fun _=>rfl
def okE (N:Nat) (e:Entry):Prop:=I64 e.pos∧I64 e.stamp∧I64 e.client∧I64 e.id∧e.body.length < N
theorem okE.up {m n:Nat} {e:Entry} (h:m≤n) (k:okE m e):okE n e:=⟨k.1,k.2.1,k.2.2.1,k.2.2.2.1,Nat.lt_of_lt_of_le k.2.2.2.2 h⟩
theorem oen:OA Tryz.prog 62 5 okE (eE none):=
  (oa_struct Tryz.underlying62 (by kernel_rfl) (of_cons rfl oi (of_cons rfl oi (of_cons rfl oi (of_cons rfl oi (of_cons rfl obs of_nil)))))).map (fun d=>⟨d.1,d.2.1,d.2.2.1,d.2.2.2.1,d.2.2.2.2.1⟩) (fun _ _ _=>okE.up) (fun _ _ h=>⟨h.1,h.2.1,h.2.2.1,h.2.2.2.1,h.2.2.2.2.1.2⟩) fun _=>rfl
end Go.Proofs.YtdjngjjjdkdfkaaGreat

namespace Go.Proofs.YtdjngjjjdkdfkaaGreat
set_option linter.unusedVariables false
set_option linter.unusedSimpArgs false
set_option maxHeartbeats 8000000
open Go.RowKit Go.ChangeShapes Go.WideShapes Go.ChangeAt Go.Deep
set_option maxRecDepth 100000
abbrev tNd:TypeId:=47
abbrev zNd:Bx:=.c tNd [I 0,nsl,np,np,np,I 0,nsl,I 0,B false,I 0,I 0,np,I 0,I 0,I 0,I 0,I 0,nsl,nsl,nsl,nsl,I 0]
theorem dnone_n:AC Tryz.prog 17 [np] [] (fun v bs'=>v=B true∧bs'=[]):=by
  refine AC.N Tryz.func17 Tryz.ntmps17 ?_
  intro X hρ hmks
  refine NX ?_
  repeat' (first|((first|((with_reducible apply AP.k_any);first|refine AP.S ?_|(refine AP.Y ?_;dsimp only)|refine AP.G (fun hg=>?_) (fun hg=>?_)|(refine AP.V (fun c hnil=>?_);simp only [nz])|refine AP.A ?_|refine AP.AB 0 ?_|refine AP.AB 1 ?_|refine AP.AL ?_))<;>(try refine NX ?_))|(refine AP.N0 ?_;try clear hQ' Q')|((with_reducible apply CP.k_reg);refine cp_regG fun Q' hQ'=>?_)|refine CP.W ?_|refine cp_cond rfl (fun hc=>?_) (fun hc=>?_)|(simp only [List.append_eq,List.cons_append,List.nil_append]))
  (exact RetQ.A [] (by exact ⟨rfl,rfl⟩))
theorem dget_n (b:List UInt8):AC Tryz.prog 5 [np,bs none b] [] (fun v bs'=>v=.tu [.sl none 1 [],I 1]∧bs'=[]):=by
  have h:=dnone_n
  refine AC.N Tryz.func5 Tryz.ntmps5 ?_
  intro X hρ hmks
  refine NX ?_
  repeat' (first|((first|((with_reducible apply AP.k_any);first|refine AP.S ?_|(refine AP.Y ?_;dsimp only)|refine AP.G (fun hg=>?_) (fun hg=>?_)|(refine AP.V (fun c hnil=>?_);simp only [nz])|refine AP.F ?_|refine AP.F0 ?_|refine AP.A ?_|refine AP.AB 0 ?_|refine AP.AB 1 ?_|refine AP.AL ?_)|((with_reducible apply DW.k_any);first|refine DW.R ?_|refine DW.R' ?_|refine DW.W ?_|refine DW.W' ?_|refine DW.RA ?_|refine DW.A 0 ?_|refine DW.A 1 ?_|refine DW.A 2 ?_|refine DW.A' 0 ?_|refine DW.A' 2 ?_|((fail_if_success refine DW.known rfl ?_);refine DW.G (fun hg=>?_) (fun hg=>?_))))<;>(try refine NX ?_))|(refine AP.N0 ?_;try clear hQ' Q')|((with_reducible apply CP.k_drw);refine cp_drwX fun Q' hQ'=>?_)|((with_reducible apply CP.k_drw1);refine cp_drawX ?_)|((with_reducible apply DW.k_nil);refine DW.nl ?_;first|(refine hQ' _ ?_;clear hQ' Q')|skip)|((with_reducible apply CP.k_reg);refine cp_regG fun Q' hQ'=>?_)|refine CP.W ?_|refine cp_cond rfl (fun hc=>?_) (fun hc=>?_)|(simp only [List.append_eq,List.cons_append,List.nil_append]))
  (exact RetQ.A [] (by exact ⟨rfl,rfl⟩))
theorem dsync_n:AC Tryz.prog 6 [np] [] (fun v bs'=>v=.tu [.sl none 1 [],I 1]∧bs'=[]):=by
  have h:=dnone_n
  refine AC.N Tryz.func6 Tryz.ntmps6 ?_
  intro X hρ hmks
  refine NX ?_
  repeat' (first|((first|((with_reducible apply AP.k_any);first|refine AP.S ?_|(refine AP.Y ?_;dsimp only)|refine AP.G (fun hg=>?_) (fun hg=>?_)|(refine AP.V (fun c hnil=>?_);simp only [nz])|refine AP.A ?_|refine AP.AB 0 ?_|refine AP.AB 1 ?_|refine AP.AL ?_)|((with_reducible apply DW.k_any);first|refine DW.R ?_|refine DW.R' ?_|refine DW.W ?_|refine DW.W' ?_|refine DW.RA ?_|refine DW.A 0 ?_|refine DW.A 1 ?_|refine DW.A 2 ?_|refine DW.A' 0 ?_|refine DW.A' 2 ?_|((fail_if_success refine DW.known rfl ?_);refine DW.G (fun hg=>?_) (fun hg=>?_))))<;>(try refine NX ?_))|(refine AP.N0 ?_;try clear hQ' Q')|((with_reducible apply CP.k_drw);refine cp_drwX fun Q' hQ'=>?_)|((with_reducible apply CP.k_drw1);refine cp_drawX ?_)|((with_reducible apply DW.k_nil);refine DW.nl ?_;first|(refine hQ' _ ?_;clear hQ' Q')|skip)|((with_reducible apply CP.k_reg);refine cp_regG fun Q' hQ'=>?_)|refine CP.W ?_|refine cp_cond rfl (fun hc=>?_) (fun hc=>?_)|(simp only [List.append_eq,List.cons_append,List.nil_append]))
  (exact RetQ.A [] (by exact ⟨rfl,rfl⟩))
theorem dtick_n (c:Int):AC Tryz.prog 7 [np,I c] [] (fun v bs'=>v=.tu [.sl none 1 [],I 1]∧bs'=[]):=by
  have h:=dnone_n
  refine AC.N Tryz.func7 Tryz.ntmps7 ?_
  intro X hρ hmks
  refine NX ?_
  repeat' (first|((first|((with_reducible apply AP.k_any);first|refine AP.S ?_|refine AP.A ?_|refine AP.AB 0 ?_|refine AP.AB 1 ?_|refine AP.AL ?_)|((with_reducible apply DW.k_any);first|refine DW.R ?_|refine DW.R' ?_|refine DW.W ?_|refine DW.W' ?_|refine DW.RA ?_|refine DW.A 0 ?_|refine DW.A 1 ?_|refine DW.A 2 ?_|refine DW.A' 0 ?_|refine DW.A' 2 ?_|((fail_if_success refine DW.known rfl ?_);refine DW.G (fun hg=>?_) (fun hg=>?_))))<;>(try refine NX ?_))|(refine AP.N0 ?_;try clear hQ' Q')|((with_reducible apply CP.k_drw);refine cp_drwX fun Q' hQ'=>?_)|((with_reducible apply CP.k_drw1);refine cp_drawX ?_)|((with_reducible apply DW.k_nil);refine DW.nl ?_;first|(refine hQ' _ ?_;clear hQ' Q')|skip)|((with_reducible apply CP.k_reg);refine cp_regG fun Q' hQ'=>?_)|refine CP.W ?_|refine cp_cond rfl (fun hc=>?_) (fun hc=>?_)|(simp only [List.append_eq,List.cons_append,List.nil_append]))
  (exact RetQ.A [] (by exact ⟨rfl,rfl⟩))
theorem dstart_n:AC Tryz.prog 8 [np] [] (fun v bs'=>v=.tu [.sl none 1 [],I 1]∧bs'=[]):=by
  have h:=dnone_n
  refine AC.N Tryz.func8 Tryz.ntmps8 ?_
  intro X hρ hmks
  refine NX ?_
  repeat' (first|((first|((with_reducible apply AP.k_any);first|refine AP.S ?_|(refine AP.V (fun c hnil=>?_);simp only [nz])|refine AP.A ?_|refine AP.AB 0 ?_|refine AP.AB 1 ?_|refine AP.AL ?_))<;>(try refine NX ?_))|(refine AP.N0 ?_;try clear hQ' Q')|((with_reducible apply CP.k_reg);refine cp_regG fun Q' hQ'=>?_)|refine CP.W ?_|refine cp_cond rfl (fun hc=>?_) (fun hc=>?_)|(simp only [List.append_eq,List.cons_append,List.nil_append]))
  (exact RetQ.A [] (by exact ⟨rfl,rfl⟩))
theorem dcrash_n (c d:Int):AC Tryz.prog 9 [np,I c,I d] [] (fun v bs'=>v=I 1∧bs'=[]):=by
  have h:=dnone_n
  refine AC.N Tryz.func9 Tryz.ntmps9 ?_
  intro X hρ hmks
  refine NX ?_
  repeat' (first|((first|((with_reducible apply AP.k_any);first|refine AP.S ?_|(refine AP.V (fun c hnil=>?_);simp only [nz])|refine AP.A ?_|refine AP.AB 0 ?_|refine AP.AB 1 ?_|refine AP.AL ?_))<;>(try refine NX ?_))|(refine AP.N0 ?_;try clear hQ' Q')|((with_reducible apply CP.k_reg);refine cp_regG fun Q' hQ'=>?_)|refine CP.W ?_|refine cp_cond rfl (fun hc=>?_) (fun hc=>?_)|(simp only [List.append_eq,List.cons_append,List.nil_append]))
  (exact RetQ.A [] (by exact ⟨rfl,rfl⟩))
theorem dlog_n:AC Tryz.prog 10 [np] [] (fun v bs'=>v=.sl none 5 []∧bs'=[]):=by
  have h:=dnone_n
  refine AC.N Tryz.func10 Tryz.ntmps10 ?_
  intro X hρ hmks
  refine NX ?_
  repeat' (first|((first|((with_reducible apply AP.k_any);first|refine AP.S ?_|refine AP.A ?_|refine AP.AB 0 ?_|refine AP.AB 1 ?_|refine AP.AL ?_)|((with_reducible apply DW.k_any);first|refine DW.R ?_|refine DW.R' ?_|refine DW.W ?_|refine DW.W' ?_|refine DW.RA ?_|refine DW.A 0 ?_|refine DW.A 1 ?_|refine DW.A 2 ?_|refine DW.A' 0 ?_|refine DW.A' 2 ?_|((fail_if_success refine DW.known rfl ?_);refine DW.G (fun hg=>?_) (fun hg=>?_))))<;>(try refine NX ?_))|(refine AP.N0 ?_;try clear hQ' Q')|((with_reducible apply CP.k_drw);refine cp_drwX fun Q' hQ'=>?_)|((with_reducible apply CP.k_drw1);refine cp_drawX ?_)|((with_reducible apply DW.k_nil);refine DW.nl ?_;first|(refine hQ' _ ?_;clear hQ' Q')|skip)|((with_reducible apply CP.k_reg);refine cp_regG fun Q' hQ'=>?_)|refine CP.W ?_|refine cp_cond rfl (fun hc=>?_) (fun hc=>?_)|(simp only [List.append_eq,List.cons_append,List.nil_append]))
  (exact RetQ.A [] (by exact ⟨rfl,rfl⟩))
theorem dsynced_n:AC Tryz.prog 11 [np] [] (fun v bs'=>v=I 0∧bs'=[]):=by
  have h:=dnone_n
  refine AC.N Tryz.func11 Tryz.ntmps11 ?_
  intro X hρ hmks
  refine NX ?_
  repeat' (first|((first|((with_reducible apply AP.k_any);first|refine AP.S ?_|refine AP.A ?_|refine AP.AB 0 ?_|refine AP.AB 1 ?_|refine AP.AL ?_))<;>(try refine NX ?_))|(refine AP.N0 ?_;try clear hQ' Q')|((with_reducible apply CP.k_reg);refine cp_regG fun Q' hQ'=>?_)|refine CP.W ?_|refine cp_cond rfl (fun hc=>?_) (fun hc=>?_)|(simp only [List.append_eq,List.cons_append,List.nil_append]))
  (exact RetQ.A [] (by exact ⟨rfl,rfl⟩))
theorem dbook_n:AC Tryz.prog 12 [np] [] (fun v bs'=>v=.ag [I 0,.sl none 3 [],I 0,B false,I 0]∧bs'=[]):=by
  have h:=dnone_n
  refine AC.N Tryz.func12 Tryz.ntmps12 ?_
  intro X hρ hmks
  refine NX ?_
  repeat' (first|((first|((with_reducible apply AP.k_any);first|refine AP.S ?_|refine AP.A ?_|refine AP.AB 0 ?_|refine AP.AB 1 ?_|refine AP.AL ?_))<;>(try refine NX ?_))|(refine AP.N0 ?_;try clear hQ' Q')|((with_reducible apply CP.k_reg);refine cp_regG fun Q' hQ'=>?_)|refine CP.W ?_|refine cp_cond rfl (fun hc=>?_) (fun hc=>?_)|(simp only [List.append_eq,List.cons_append,List.nil_append]))
  (exact RetQ.A [] (by exact ⟨rfl,rfl⟩))
theorem dclock_n:AC Tryz.prog 13 [np] [] (fun v bs'=>v=I 0∧bs'=[]):=by
  have h:=dnone_n
  refine AC.N Tryz.func13 Tryz.ntmps13 ?_
  intro X hρ hmks
  refine NX ?_
  repeat' (first|((first|((with_reducible apply AP.k_any);first|refine AP.S ?_|refine AP.A ?_|refine AP.AB 0 ?_|refine AP.AB 1 ?_|refine AP.AL ?_))<;>(try refine NX ?_))|(refine AP.N0 ?_;try clear hQ' Q')|((with_reducible apply CP.k_reg);refine cp_regG fun Q' hQ'=>?_)|refine CP.W ?_|refine cp_cond rfl (fun hc=>?_) (fun hc=>?_)|(simp only [List.append_eq,List.cons_append,List.nil_append]))
  (exact RetQ.A [] (by exact ⟨rfl,rfl⟩))
theorem dboot_n:AC Tryz.prog 14 [np] [] (fun v bs'=>v=I 0∧bs'=[]):=by
  have h:=dnone_n
  refine AC.N Tryz.func14 Tryz.ntmps14 ?_
  intro X hρ hmks
  refine NX ?_
  repeat' (first|((first|((with_reducible apply AP.k_any);first|refine AP.S ?_|refine AP.A ?_|refine AP.AB 0 ?_|refine AP.AB 1 ?_|refine AP.AL ?_))<;>(try refine NX ?_))|(refine AP.N0 ?_;try clear hQ' Q')|((with_reducible apply CP.k_reg);refine cp_regG fun Q' hQ'=>?_)|refine CP.W ?_|refine cp_cond rfl (fun hc=>?_) (fun hc=>?_)|(simp only [List.append_eq,List.cons_append,List.nil_append]))
  (exact RetQ.A [] (by exact ⟨rfl,rfl⟩))
theorem ddone_n:AC Tryz.prog 15 [np] [] (fun v bs'=>v=I 0∧bs'=[]):=by
  have h:=dnone_n
  refine AC.N Tryz.func15 Tryz.ntmps15 ?_
  intro X hρ hmks
  refine NX ?_
  repeat' (first|((first|((with_reducible apply AP.k_any);first|refine AP.S ?_|refine AP.A ?_|refine AP.AB 0 ?_|refine AP.AB 1 ?_|refine AP.AL ?_))<;>(try refine NX ?_))|(refine AP.N0 ?_;try clear hQ' Q')|((with_reducible apply CP.k_reg);refine cp_regG fun Q' hQ'=>?_)|refine CP.W ?_|refine cp_cond rfl (fun hc=>?_) (fun hc=>?_)|(simp only [List.append_eq,List.cons_append,List.nil_append]))
  (exact RetQ.A [] (by exact ⟨rfl,rfl⟩))
theorem dup_n:AC Tryz.prog 16 [np] [] (fun v bs'=>v=B false∧bs'=[]):=by
  have h:=dnone_n
  refine AC.N Tryz.func16 Tryz.ntmps16 ?_
  intro X hρ hmks
  refine NX ?_
  repeat' (first|((first|((with_reducible apply AP.k_any);first|refine AP.S ?_|(refine AP.Y ?_;dsimp only)|refine AP.G (fun hg=>?_) (fun hg=>?_)|refine AP.A ?_|refine AP.AB 0 ?_|refine AP.AB 1 ?_|refine AP.AL ?_))<;>(try refine NX ?_))|(refine AP.N0 ?_;try clear hQ' Q')|((with_reducible apply CP.k_reg);refine cp_regG fun Q' hQ'=>?_)|refine CP.W ?_|refine cp_cond rfl (fun hc=>?_) (fun hc=>?_)|(simp only [List.append_eq,List.cons_append,List.nil_append]))
  (exact RetQ.A [] (by exact ⟨rfl,rfl⟩))
theorem dnone_z:AC Tryz.prog 17 [.bp 0 0 0] [zNd] (fun v bs'=>v=B true∧bs'=[zNd]):=by
  refine AC.N Tryz.func17 Tryz.ntmps17 ?_
  intro X hρ hmks
  refine NX ?_
  repeat' (first|((first|((with_reducible apply AP.k_any);first|refine AP.S ?_|(refine AP.Y ?_;dsimp only)|refine AP.G (fun hg=>?_) (fun hg=>?_)|(refine AP.V (fun c hnil=>?_);simp only [nz])|refine AP.A ?_|refine AP.AB 0 ?_|refine AP.AB 1 ?_|refine AP.AL ?_))<;>(try refine NX ?_))|(refine AP.N0 ?_;try clear hQ' Q')|((with_reducible apply CP.k_reg);refine cp_regG fun Q' hQ'=>?_)|refine CP.W ?_|refine cp_cond rfl (fun hc=>?_) (fun hc=>?_)|(simp only [List.append_eq,List.cons_append,List.nil_append]))
  (exact RetQ.A [(0,0)] (by exact ⟨rfl,rfl⟩))
theorem dget_z (b:List UInt8):AC Tryz.prog 5 [.bp 0 0 0,bs none b] [zNd] (fun v bs'=>v=.tu [.sl none 1 [],I 1]∧bs'=[zNd]):=by
  have h:=dnone_z
  refine AC.N Tryz.func5 Tryz.ntmps5 ?_
  intro X hρ hmks
  refine NX ?_
  repeat' (first|((first|((with_reducible apply AP.k_any);first|refine AP.S ?_|(refine AP.Y ?_;dsimp only)|refine AP.G (fun hg=>?_) (fun hg=>?_)|(refine AP.V (fun c hnil=>?_);simp only [nz])|refine AP.F ?_|refine AP.F0 ?_|refine AP.A ?_|refine AP.AB 0 ?_|refine AP.AB 1 ?_|refine AP.AL ?_)|((with_reducible apply DW.k_any);first|refine DW.R ?_|refine DW.R' ?_|refine DW.W ?_|refine DW.W' ?_|refine DW.RA ?_|refine DW.A 0 ?_|refine DW.A 1 ?_|refine DW.A 2 ?_|refine DW.A' 0 ?_|refine DW.A' 2 ?_|((fail_if_success refine DW.known rfl ?_);refine DW.G (fun hg=>?_) (fun hg=>?_))))<;>(try refine NX ?_))|(refine AP.N0 ?_;try clear hQ' Q')|((with_reducible apply CP.k_drw);refine cp_drwX fun Q' hQ'=>?_)|((with_reducible apply CP.k_drw1);refine cp_drawX ?_)|((with_reducible apply DW.k_nil);refine DW.nl ?_;first|(refine hQ' _ ?_;clear hQ' Q')|skip)|((with_reducible apply CP.k_reg);refine cp_regG fun Q' hQ'=>?_)|refine CP.W ?_|refine cp_cond rfl (fun hc=>?_) (fun hc=>?_)|(simp only [List.append_eq,List.cons_append,List.nil_append]))
  (exact RetQ.A [(0,0)] (by exact ⟨rfl,rfl⟩))
theorem dsync_z:AC Tryz.prog 6 [.bp 0 0 0] [zNd] (fun v bs'=>v=.tu [.sl none 1 [],I 1]∧bs'=[zNd]):=by
  have h:=dnone_z
  refine AC.N Tryz.func6 Tryz.ntmps6 ?_
  intro X hρ hmks
  refine NX ?_
  repeat' (first|((first|((with_reducible apply AP.k_any);first|refine AP.S ?_|(refine AP.Y ?_;dsimp only)|refine AP.G (fun hg=>?_) (fun hg=>?_)|(refine AP.V (fun c hnil=>?_);simp only [nz])|refine AP.A ?_|refine AP.AB 0 ?_|refine AP.AB 1 ?_|refine AP.AL ?_)|((with_reducible apply DW.k_any);first|refine DW.R ?_|refine DW.R' ?_|refine DW.W ?_|refine DW.W' ?_|refine DW.RA ?_|refine DW.A 0 ?_|refine DW.A 1 ?_|refine DW.A 2 ?_|refine DW.A' 0 ?_|refine DW.A' 2 ?_|((fail_if_success refine DW.known rfl ?_);refine DW.G (fun hg=>?_) (fun hg=>?_))))<;>(try refine NX ?_))|(refine AP.N0 ?_;try clear hQ' Q')|((with_reducible apply CP.k_drw);refine cp_drwX fun Q' hQ'=>?_)|((with_reducible apply CP.k_drw1);refine cp_drawX ?_)|((with_reducible apply DW.k_nil);refine DW.nl ?_;first|(refine hQ' _ ?_;clear hQ' Q')|skip)|((with_reducible apply CP.k_reg);refine cp_regG fun Q' hQ'=>?_)|refine CP.W ?_|refine cp_cond rfl (fun hc=>?_) (fun hc=>?_)|(simp only [List.append_eq,List.cons_append,List.nil_append]))
  (exact RetQ.A [(0,0)] (by exact ⟨rfl,rfl⟩))
theorem dtick_z (c:Int):AC Tryz.prog 7 [.bp 0 0 0,I c] [zNd] (fun v bs'=>v=.tu [.sl none 1 [],I 1]∧bs'=[zNd]):=by
  have h:=dnone_z
  refine AC.N Tryz.func7 Tryz.ntmps7 ?_
  intro X hρ hmks
  refine NX ?_
  repeat' (first|((first|((with_reducible apply AP.k_any);first|refine AP.S ?_|refine AP.A ?_|refine AP.AB 0 ?_|refine AP.AB 1 ?_|refine AP.AL ?_)|((with_reducible apply DW.k_any);first|refine DW.R ?_|refine DW.R' ?_|refine DW.W ?_|refine DW.W' ?_|refine DW.RA ?_|refine DW.A 0 ?_|refine DW.A 1 ?_|refine DW.A 2 ?_|refine DW.A' 0 ?_|refine DW.A' 2 ?_|((fail_if_success refine DW.known rfl ?_);refine DW.G (fun hg=>?_) (fun hg=>?_))))<;>(try refine NX ?_))|(refine AP.N0 ?_;try clear hQ' Q')|((with_reducible apply CP.k_drw);refine cp_drwX fun Q' hQ'=>?_)|((with_reducible apply CP.k_drw1);refine cp_drawX ?_)|((with_reducible apply DW.k_nil);refine DW.nl ?_;first|(refine hQ' _ ?_;clear hQ' Q')|skip)|((with_reducible apply CP.k_reg);refine cp_regG fun Q' hQ'=>?_)|refine CP.W ?_|refine cp_cond rfl (fun hc=>?_) (fun hc=>?_)|(simp only [List.append_eq,List.cons_append,List.nil_append]))
  (exact RetQ.A [(0,0)] (by exact ⟨rfl,rfl⟩))
theorem dstart_z:AC Tryz.prog 8 [.bp 0 0 0] [zNd] (fun v bs'=>v=.tu [.sl none 1 [],I 1]∧bs'=[zNd]):=by
  have h:=dnone_z
  refine AC.N Tryz.func8 Tryz.ntmps8 ?_
  intro X hρ hmks
  refine NX ?_
  repeat' (first|((first|((with_reducible apply AP.k_any);first|refine AP.S ?_|(refine AP.V (fun c hnil=>?_);simp only [nz])|refine AP.A ?_|refine AP.AB 0 ?_|refine AP.AB 1 ?_|refine AP.AL ?_))<;>(try refine NX ?_))|(refine AP.N0 ?_;try clear hQ' Q')|((with_reducible apply CP.k_reg);refine cp_regG fun Q' hQ'=>?_)|refine CP.W ?_|refine cp_cond rfl (fun hc=>?_) (fun hc=>?_)|(simp only [List.append_eq,List.cons_append,List.nil_append]))
  (exact RetQ.A [(0,0)] (by exact ⟨rfl,rfl⟩))
theorem dcrash_z (c d:Int):AC Tryz.prog 9 [.bp 0 0 0,I c,I d] [zNd] (fun v bs'=>v=I 1∧bs'=[zNd]):=by
  have h:=dnone_z
  refine AC.N Tryz.func9 Tryz.ntmps9 ?_
  intro X hρ hmks
  refine NX ?_
  repeat' (first|((first|((with_reducible apply AP.k_any);first|refine AP.S ?_|(refine AP.V (fun c hnil=>?_);simp only [nz])|refine AP.A ?_|refine AP.AB 0 ?_|refine AP.AB 1 ?_|refine AP.AL ?_))<;>(try refine NX ?_))|(refine AP.N0 ?_;try clear hQ' Q')|((with_reducible apply CP.k_reg);refine cp_regG fun Q' hQ'=>?_)|refine CP.W ?_|refine cp_cond rfl (fun hc=>?_) (fun hc=>?_)|(simp only [List.append_eq,List.cons_append,List.nil_append]))
  (exact RetQ.A [(0,0)] (by exact ⟨rfl,rfl⟩))
theorem dlog_z:AC Tryz.prog 10 [.bp 0 0 0] [zNd] (fun v bs'=>v=.sl none 5 []∧bs'=[zNd]):=by
  have h:=dnone_z
  refine AC.N Tryz.func10 Tryz.ntmps10 ?_
  intro X hρ hmks
  refine NX ?_
  repeat' (first|((first|((with_reducible apply AP.k_any);first|refine AP.S ?_|refine AP.A ?_|refine AP.AB 0 ?_|refine AP.AB 1 ?_|refine AP.AL ?_)|((with_reducible apply DW.k_any);first|refine DW.R ?_|refine DW.R' ?_|refine DW.W ?_|refine DW.W' ?_|refine DW.RA ?_|refine DW.A 0 ?_|refine DW.A 1 ?_|refine DW.A 2 ?_|refine DW.A' 0 ?_|refine DW.A' 2 ?_|((fail_if_success refine DW.known rfl ?_);refine DW.G (fun hg=>?_) (fun hg=>?_))))<;>(try refine NX ?_))|(refine AP.N0 ?_;try clear hQ' Q')|((with_reducible apply CP.k_drw);refine cp_drwX fun Q' hQ'=>?_)|((with_reducible apply CP.k_drw1);refine cp_drawX ?_)|((with_reducible apply DW.k_nil);refine DW.nl ?_;first|(refine hQ' _ ?_;clear hQ' Q')|skip)|((with_reducible apply CP.k_reg);refine cp_regG fun Q' hQ'=>?_)|refine CP.W ?_|refine cp_cond rfl (fun hc=>?_) (fun hc=>?_)|(simp only [List.append_eq,List.cons_append,List.nil_append]))
  (exact RetQ.A [(0,0)] (by exact ⟨rfl,rfl⟩))
theorem dsynced_z:AC Tryz.prog 11 [.bp 0 0 0] [zNd] (fun v bs'=>v=I 0∧bs'=[zNd]):=by
  have h:=dnone_z
  refine AC.N Tryz.func11 Tryz.ntmps11 ?_
  intro X hρ hmks
  refine NX ?_
  repeat' (first|((first|((with_reducible apply AP.k_any);first|refine AP.S ?_|refine AP.A ?_|refine AP.AB 0 ?_|refine AP.AB 1 ?_|refine AP.AL ?_))<;>(try refine NX ?_))|(refine AP.N0 ?_;try clear hQ' Q')|((with_reducible apply CP.k_reg);refine cp_regG fun Q' hQ'=>?_)|refine CP.W ?_|refine cp_cond rfl (fun hc=>?_) (fun hc=>?_)|(simp only [List.append_eq,List.cons_append,List.nil_append]))
  (exact RetQ.A [(0,0)] (by exact ⟨rfl,rfl⟩))
theorem dbook_z:AC Tryz.prog 12 [.bp 0 0 0] [zNd] (fun v bs'=>v=.ag [I 0,.sl none 3 [],I 0,B false,I 0]∧bs'=[zNd]):=by
  have h:=dnone_z
  refine AC.N Tryz.func12 Tryz.ntmps12 ?_
  intro X hρ hmks
  refine NX ?_
  repeat' (first|((first|((with_reducible apply AP.k_any);first|refine AP.S ?_|refine AP.A ?_|refine AP.AB 0 ?_|refine AP.AB 1 ?_|refine AP.AL ?_))<;>(try refine NX ?_))|(refine AP.N0 ?_;try clear hQ' Q')|((with_reducible apply CP.k_reg);refine cp_regG fun Q' hQ'=>?_)|refine CP.W ?_|refine cp_cond rfl (fun hc=>?_) (fun hc=>?_)|(simp only [List.append_eq,List.cons_append,List.nil_append]))
  (exact RetQ.A [(0,0)] (by exact ⟨rfl,rfl⟩))
theorem dclock_z:AC Tryz.prog 13 [.bp 0 0 0] [zNd] (fun v bs'=>v=I 0∧bs'=[zNd]):=by
  have h:=dnone_z
  refine AC.N Tryz.func13 Tryz.ntmps13 ?_
  intro X hρ hmks
  refine NX ?_
  repeat' (first|((first|((with_reducible apply AP.k_any);first|refine AP.S ?_|refine AP.A ?_|refine AP.AB 0 ?_|refine AP.AB 1 ?_|refine AP.AL ?_))<;>(try refine NX ?_))|(refine AP.N0 ?_;try clear hQ' Q')|((with_reducible apply CP.k_reg);refine cp_regG fun Q' hQ'=>?_)|refine CP.W ?_|refine cp_cond rfl (fun hc=>?_) (fun hc=>?_)|(simp only [List.append_eq,List.cons_append,List.nil_append]))
  (exact RetQ.A [(0,0)] (by exact ⟨rfl,rfl⟩))
theorem dboot_z:AC Tryz.prog 14 [.bp 0 0 0] [zNd] (fun v bs'=>v=I 0∧bs'=[zNd]):=by
  have h:=dnone_z
  refine AC.N Tryz.func14 Tryz.ntmps14 ?_
  intro X hρ hmks
  refine NX ?_
  repeat' (first|((first|((with_reducible apply AP.k_any);first|refine AP.S ?_|refine AP.A ?_|refine AP.AB 0 ?_|refine AP.AB 1 ?_|refine AP.AL ?_))<;>(try refine NX ?_))|(refine AP.N0 ?_;try clear hQ' Q')|((with_reducible apply CP.k_reg);refine cp_regG fun Q' hQ'=>?_)|refine CP.W ?_|refine cp_cond rfl (fun hc=>?_) (fun hc=>?_)|(simp only [List.append_eq,List.cons_append,List.nil_append]))
  (exact RetQ.A [(0,0)] (by exact ⟨rfl,rfl⟩))
theorem ddone_z:AC Tryz.prog 15 [.bp 0 0 0] [zNd] (fun v bs'=>v=I 0∧bs'=[zNd]):=by
  have h:=dnone_z
  refine AC.N Tryz.func15 Tryz.ntmps15 ?_
  intro X hρ hmks
  refine NX ?_
  repeat' (first|((first|((with_reducible apply AP.k_any);first|refine AP.S ?_|refine AP.A ?_|refine AP.AB 0 ?_|refine AP.AB 1 ?_|refine AP.AL ?_))<;>(try refine NX ?_))|(refine AP.N0 ?_;try clear hQ' Q')|((with_reducible apply CP.k_reg);refine cp_regG fun Q' hQ'=>?_)|refine CP.W ?_|refine cp_cond rfl (fun hc=>?_) (fun hc=>?_)|(simp only [List.append_eq,List.cons_append,List.nil_append]))
  (exact RetQ.A [(0,0)] (by exact ⟨rfl,rfl⟩))
theorem dup_z:AC Tryz.prog 16 [.bp 0 0 0] [zNd] (fun v bs'=>v=B false∧bs'=[zNd]):=by
  have h:=dnone_z
  refine AC.N Tryz.func16 Tryz.ntmps16 ?_
  intro X hρ hmks
  refine NX ?_
  repeat' (first|((first|((with_reducible apply AP.k_any);first|refine AP.S ?_|(refine AP.Y ?_;dsimp only)|refine AP.G (fun hg=>?_) (fun hg=>?_)|refine AP.A ?_|refine AP.AB 0 ?_|refine AP.AB 1 ?_|refine AP.AL ?_))<;>(try refine NX ?_))|(refine AP.N0 ?_;try clear hQ' Q')|((with_reducible apply CP.k_reg);refine cp_regG fun Q' hQ'=>?_)|refine CP.W ?_|refine cp_cond rfl (fun hc=>?_) (fun hc=>?_)|(simp only [List.append_eq,List.cons_append,List.nil_append]))
  (exact RetQ.A [(0,0)] (by exact ⟨rfl,rfl⟩))
structure GAct where
  kind:Int
  frm:Int
  epoch:Int
  m:Msg
  body:List UInt8
  n:Int
  torn:Int
abbrev eGA (a:GAct):List AV:=[I a.kind,I a.frm,I a.epoch] ++ (eG a.m ++ [bs none a.body,I a.n,I a.torn])
def GAct.small (a:GAct):Prop:=a.body.length≤10000000∧a.m.body.length≤10000000∧a.m.entries.length≤10000000∧a.m.cfg.members.length≤10000000∧∀ e∈a.m.entries,e.body.length≤10000000
def sumE:List Entry→Nat
  | []=>0
  | e :: l=>e.body.length + 50 + sumE l
theorem sumE_take (l:List Entry) (h:∀ e∈l,e.body.length≤10000000):sumE l≤10000050 * l.length:=by
  induction l with
  | nil=>simp [sumE]
  | cons e l ih=>
    have:=h e (by simp)
    have:=ih fun e he=>h e (by simp [he])
    simp only [sumE,List.length_cons];omega
theorem sumE_app (l:List Entry) (e:Entry):sumE (l ++ [e])=sumE l + e.body.length + 50:=by
  induction l with
  | nil=>simp [sumE]
  | cons x l ih=>simp only [List.cons_append,sumE,ih];omega
def greatA (a:GAct):Bool:=decide (8000 < 100 + a.body.length + a.m.body.length + 20 * a.m.cfg.members.length + sumE a.m.entries)
theorem greatA_ac (a:GAct) (h:a.small):AC Tryz.prog 4 [.sl none 18 [eGA a]] [] (fun v bs'=>v=B (greatA a)∧bs'=[]):=by
  obtain ⟨h1,h2,h3,h4,h5⟩:=h
  have hw:∀ x:Nat,x≤1000000000000000→IntKind.i64.wrap (x:Int)=x:=fun x hx=>wrap_i64 (by omega) (by omega)
  have hs:=sumE_take a.m.entries h5
  refine AC.N Tryz.func4 Tryz.ntmps4 ?_
  intro X hρ hmks
  refine NX ?_
  repeat' (first|((first|((with_reducible apply AP.k_any);first|refine AP.S ?_|refine AP.E ?_|refine AP.A ?_|refine AP.AB 0 ?_|refine AP.AB 1 ?_|refine AP.AL ?_)|((with_reducible apply DW.k_any);first|refine DW.R ?_|refine DW.R' ?_|refine DW.W ?_|refine DW.W' ?_|refine DW.RA ?_|refine DW.A 0 ?_|refine DW.A 1 ?_|refine DW.A 2 ?_|refine DW.A' 0 ?_|refine DW.A' 2 ?_|((fail_if_success refine DW.known rfl ?_);refine DW.G (fun hg=>?_) (fun hg=>?_))))<;>(try refine NX ?_))|(refine AP.N0 ?_;try clear hQ' Q')|((with_reducible apply CP.k_drw);refine cp_drwX fun Q' hQ'=>?_)|((with_reducible apply CP.k_drw1);refine cp_drawX ?_)|((with_reducible apply DW.k_nil);refine DW.nl ?_;first|(refine hQ' _ ?_;clear hQ' Q')|skip)|((with_reducible apply CP.k_reg);refine cp_regG fun Q' hQ'=>?_)|refine CP.W ?_|refine cp_cond rfl (fun hc=>?_) (fun hc=>?_)|(simp only [List.append_eq,List.cons_append,List.nil_append]))
  refine cp_rounds 3 ?_
  repeat' (first|((first|((with_reducible apply AP.k_any);first|refine AP.S ?_|refine AP.E ?_|refine AP.A ?_|refine AP.AB 0 ?_|refine AP.AB 1 ?_|refine AP.AL ?_)|((with_reducible apply DW.k_any);first|refine DW.R ?_|refine DW.R' ?_|refine DW.W ?_|refine DW.W' ?_|refine DW.RA ?_|refine DW.A 0 ?_|refine DW.A 1 ?_|refine DW.A 2 ?_|refine DW.A' 0 ?_|refine DW.A' 2 ?_|((fail_if_success refine DW.known rfl ?_);refine DW.G (fun hg=>?_) (fun hg=>?_))))<;>(try refine NX ?_))|(refine AP.N0 ?_;try clear hQ' Q')|((with_reducible apply CP.k_drw);refine cp_drwX fun Q' hQ'=>?_)|((with_reducible apply CP.k_drw1);refine cp_drawX ?_)|((with_reducible apply DW.k_nil);refine DW.nl ?_;first|(refine hQ' _ ?_;clear hQ' Q')|skip)|((with_reducible apply CP.k_reg);refine cp_regG fun Q' hQ'=>?_)|refine CP.W ?_|refine cp_cond rfl (fun hc=>?_) (fun hc=>?_)|(simp only [List.append_eq,List.cons_append,List.nil_append]))
  have e0:IntKind.i64.wrap (IntKind.i64.wrap (IntKind.i64.wrap (IntKind.i64.wrap (0 + 100) + (a.body.length:Int)) + (a.m.body.length:Int)) + IntKind.i64.wrap (20 * (a.m.cfg.members.length:Int)))=((100 + a.body.length + a.m.body.length + 20 * a.m.cfg.members.length:Nat):Int):=by
    rw [wrap_i64 (x:=0 + 100) (by omega) (by omega),wrap_i64 (x:=0 + 100 + (a.body.length:Int)) (by omega) (by omega),wrap_i64 (x:=0 + 100 + (a.body.length:Int) + (a.m.body.length:Int)) (by omega) (by omega),wrap_i64 (x:=20 * (a.m.cfg.members.length:Int)) (by omega) (by omega),wrap_i64 (by omega) (by omega)];omega
  simp only [e0]
  generalize hT:100 + a.body.length + a.m.body.length + 20 * a.m.cfg.members.length=T
  refine cp_loopS [3,5,39,40,41,42,43,44,45,46,47,48,49,50,51,52,53,54,55,56,57,58,59,60,61,62,63] (fun k:Nat=>a.m.entries.length - k) (fun k=>k≤a.m.entries.length) (fun k=>[(5,I k),(3,I ((T + sumE (a.m.entries.take k):Nat):Int))]) (fun _=>[]) 0 (Nat.zero_le _) (by (simp only [List.take_zero,sumE,Nat.add_zero];exact Gh.W)) ?_
  intro k hk
  simp only [setT,deT,setB,List.set_cons_succ,List.set_cons_zero]
  by_cases hlt:k < a.m.entries.length
  · have hw1:IntKind.i64.wrap ((k:Int) + 1)=((k + 1:Nat):Int):=wrap_i64 (by omega) (by omega)
    have hbe:=h5 _ (List.getElem_mem hlt)
    have hst:=sumE_take (a.m.entries.take k) (fun e he=>h5 e (List.mem_of_mem_take he))
    rw [List.length_take] at hst
    have hn:IntKind.i64.wrap (IntKind.i64.wrap (((T + sumE (a.m.entries.take k):Nat):Int) + ((a.m.entries[k]).body.length:Int)) + 50)=((T + sumE (a.m.entries.take (k + 1)):Nat):Int):=by
      rw [List.take_succ_eq_append_getElem hlt,sumE_app,wrap_i64 (x:=((T + sumE (a.m.entries.take k):Nat):Int) + _) (by omega) (by omega),wrap_i64 (by omega) (by omega)];omega
    repeat' (first|((first|((with_reducible apply AP.k_any);first|refine AP.S ?_|refine AP.E ?_|refine AP.A ?_|refine AP.AB 0 ?_|refine AP.AB 1 ?_|refine AP.AL ?_)|((with_reducible apply DW.k_any);first|refine DW.R ?_|refine DW.R' ?_|refine DW.W ?_|refine DW.W' ?_|refine DW.RA ?_|refine DW.A 0 ?_|refine DW.A 1 ?_|refine DW.A 2 ?_|refine DW.A' 0 ?_|refine DW.A' 2 ?_|((fail_if_success refine DW.known rfl ?_);refine DW.G (fun hg=>?_) (fun hg=>?_))))<;>(try refine NX ?_))|(refine AP.N0 ?_;try clear hQ' Q')|((with_reducible apply CP.k_drw);refine cp_drwX fun Q' hQ'=>?_)|((with_reducible apply CP.k_drw1);refine cp_drawX ?_)|((with_reducible apply DW.k_nil);refine DW.nl ?_;first|(refine hQ' _ ?_;clear hQ' Q')|skip)|((with_reducible apply CP.k_reg);refine cp_regG fun Q' hQ'=>?_)|refine CP.W ?_|refine cp_cond rfl (fun hc=>?_) (fun hc=>?_)|(simp only [List.append_eq,List.cons_append,List.nil_append]))
    · simp only [hw1,hn]
      exact ⟨k + 1,by (first|omega|(dsimp only;omega)),by (first|omega|(dsimp only;omega)),by exact Gh.W⟩
    all_goals (exfalso;(repeat (rename AC _ _ _ _ _=>hzz;clear hzz));simp at *;omega)
  · obtain rfl:k=a.m.entries.length:=by omega
    rw [List.take_length]
    by_cases hg:8000 < T + sumE a.m.entries
    · have hg2:greatA a=true:=by unfold greatA;rw [hT];simpa using hg
      rw [hg2]
      repeat' (first|((first|((with_reducible apply AP.k_any);first|refine AP.S ?_|refine AP.E ?_|refine AP.A ?_|refine AP.AB 0 ?_|refine AP.AB 1 ?_|refine AP.AL ?_)|((with_reducible apply DW.k_any);first|refine DW.R ?_|refine DW.R' ?_|refine DW.W ?_|refine DW.W' ?_|refine DW.RA ?_|refine DW.A 0 ?_|refine DW.A 1 ?_|refine DW.A 2 ?_|refine DW.A' 0 ?_|refine DW.A' 2 ?_|((fail_if_success refine DW.known rfl ?_);refine DW.G (fun hg=>?_) (fun hg=>?_))))<;>(try refine NX ?_))|(refine AP.N0 ?_;try clear hQ' Q')|((with_reducible apply CP.k_drw);refine cp_drwX fun Q' hQ'=>?_)|((with_reducible apply CP.k_drw1);refine cp_drawX ?_)|((with_reducible apply DW.k_nil);refine DW.nl ?_;first|(refine hQ' _ ?_;clear hQ' Q')|skip)|((with_reducible apply CP.k_reg);refine cp_regG fun Q' hQ'=>?_)|refine CP.W ?_|refine cp_cond rfl (fun hc=>?_) (fun hc=>?_)|(simp only [List.append_eq,List.cons_append,List.nil_append]))
      all_goals first
        | (exfalso;(repeat (rename AC _ _ _ _ _=>hzz;clear hzz));simp at *;done)
        | (exfalso;(repeat (rename AC _ _ _ _ _=>hzz;clear hzz));simp at *;omega)
        | (refine RetQ.B [] ?_;(try dsimp only [resV,List.getD_cons_succ,List.getD_cons_zero]);(exact ⟨rfl,rfl⟩))
    · have hg2:greatA a=false:=by unfold greatA;rw [hT];simpa using hg
      rw [hg2]
      repeat' (first|((first|((with_reducible apply AP.k_any);first|refine AP.S ?_|refine AP.E ?_|refine AP.A ?_|refine AP.AB 0 ?_|refine AP.AB 1 ?_|refine AP.AL ?_)|((with_reducible apply DW.k_any);first|refine DW.R ?_|refine DW.R' ?_|refine DW.W ?_|refine DW.W' ?_|refine DW.RA ?_|refine DW.A 0 ?_|refine DW.A 1 ?_|refine DW.A 2 ?_|refine DW.A' 0 ?_|refine DW.A' 2 ?_|((fail_if_success refine DW.known rfl ?_);refine DW.G (fun hg=>?_) (fun hg=>?_))))<;>(try refine NX ?_))|(refine AP.N0 ?_;try clear hQ' Q')|((with_reducible apply CP.k_drw);refine cp_drwX fun Q' hQ'=>?_)|((with_reducible apply CP.k_drw1);refine cp_drawX ?_)|((with_reducible apply DW.k_nil);refine DW.nl ?_;first|(refine hQ' _ ?_;clear hQ' Q')|skip)|((with_reducible apply CP.k_reg);refine cp_regG fun Q' hQ'=>?_)|refine CP.W ?_|refine cp_cond rfl (fun hc=>?_) (fun hc=>?_)|(simp only [List.append_eq,List.cons_append,List.nil_append]))
      all_goals first
        | (exfalso;(repeat (rename AC _ _ _ _ _=>hzz;clear hzz));simp at *;done)
        | (exfalso;(repeat (rename AC _ _ _ _ _=>hzz;clear hzz));simp at *;omega)
        | (refine RetQ.B [] ?_;(try dsimp only [resV,List.getD_cons_succ,List.getD_cons_zero]);(exact ⟨rfl,rfl⟩))
theorem dnil_ac (a:GAct) (h:a.small):AC Tryz.prog 3 [.ag (eGA a)] [] (fun v bs'=>v=B true∧bs'=[]):=by
  have hg:=greatA_ac a h
  cases hga:greatA a with
  | true=>
    rw [hga] at hg
    refine AC.N Tryz.func3 Tryz.ntmps3 ?_
    intro X hρ hmks
    refine NX ?_
    refine CP.gh gh_slot ?_;refine NX ?_
    refine CP.gh gh_slot ?_;refine NX ?_
    repeat' (first|((first|((with_reducible apply AP.k_any);first|refine AP.S ?_|refine AP.E ?_|(refine AP.Y ?_;dsimp only)|refine AP.G (fun hg=>?_) (fun hg=>?_)|refine AP.A ?_|refine AP.AB 0 ?_|refine AP.AB 1 ?_|refine AP.AL ?_|((with_reducible apply AP.k_any);refine AP.gh (gh_fz (b:=1) (u:=1) rfl rfl (by (repeat' (first|exact FzC.nil|apply FzC.cons|exact FzV.hd|apply FzV.ag|exact FzV.same))) (by (repeat' (first|exact FzB.nil|apply FzB.c|apply FzB.same|exact FzC.nil|apply FzC.cons|exact FzV.hd|apply FzV.ag|exact FzV.same)))) ?_;first|simp only [roE,roC,AV.ro,ro_B,ro_M,ro_E]|simp only [roE,roC,AV.ro,ro_B])))<;>(try refine NX ?_))|(refine AP.N0 ?_;try clear hQ' Q')|((with_reducible apply CP.k_reg);refine cp_regG fun Q' hQ'=>?_)|refine CP.W ?_|refine cp_cond rfl (fun hc=>?_) (fun hc=>?_)|(simp only [List.append_eq,List.cons_append,List.nil_append]))
    all_goals (exact RetQ.A [] (by exact ⟨rfl,rfl⟩))
  | false=>
    rw [hga] at hg
    have h1:=dget_n a.body
    have h2:=dsync_n
    have h3:=dtick_n a.n
    have h4:=dstart_n
    have h5:=dcrash_n a.n a.torn
    have h6:=dlog_n
    have h7:=dsynced_n
    have h8:=dbook_n
    have h9:=dclock_n
    have h10:=dboot_n
    have h11:=ddone_n
    have h12:=dup_n
    refine AC.N Tryz.func3 Tryz.ntmps3 ?_
    intro X hρ hmks
    refine NX ?_
    refine CP.gh gh_slot ?_;refine NX ?_
    refine CP.gh gh_slot ?_;refine NX ?_
    refine CP.gh gh_slot ?_;refine NX ?_
    refine CP.gh gh_slot ?_;refine NX ?_
    refine CP.gh gh_slot ?_;refine NX ?_
    repeat' (first|((first|((with_reducible apply AP.k_any);first|refine AP.S ?_|refine AP.E ?_|(refine AP.Y ?_;dsimp only)|refine AP.G (fun hg=>?_) (fun hg=>?_)|refine AP.A ?_|refine AP.AB 0 ?_|refine AP.AB 1 ?_|refine AP.AL ?_|((with_reducible apply AP.k_any);refine AP.gh (gh_fz (b:=1) (u:=1) rfl rfl (by (repeat' (first|exact FzC.nil|apply FzC.cons|exact FzV.hd|apply FzV.ag|exact FzV.same))) (by (repeat' (first|exact FzB.nil|apply FzB.c|apply FzB.same|exact FzC.nil|apply FzC.cons|exact FzV.hd|apply FzV.ag|exact FzV.same)))) ?_;first|simp only [roE,roC,AV.ro,ro_B,ro_M,ro_E]|simp only [roE,roC,AV.ro,ro_B])))<;>(try refine NX ?_))|(refine AP.N0 ?_;try clear hQ' Q')|((with_reducible apply CP.k_reg);refine cp_regG fun Q' hQ'=>?_)|refine CP.W ?_|refine cp_cond rfl (fun hc=>?_) (fun hc=>?_)|(simp only [List.append_eq,List.cons_append,List.nil_append]))
    refine cp_rounds 3 ?_
    repeat' (first|((first|((with_reducible apply AP.k_any);first|refine AP.S ?_|refine AP.E ?_|(refine AP.Y ?_;dsimp only)|refine AP.G (fun hg=>?_) (fun hg=>?_)|refine AP.A ?_|refine AP.AB 0 ?_|refine AP.AB 1 ?_|refine AP.AL ?_|refine AP.FV ?_))<;>(try refine NX ?_))|(refine AP.N0 ?_;try clear hQ' Q')|((with_reducible apply CP.k_reg);refine cp_regG fun Q' hQ'=>?_)|refine CP.W ?_|refine cp_cond rfl (fun hc=>?_) (fun hc=>?_)|(simp only [List.append_eq,List.cons_append,List.nil_append]))
    have h1:=dget_z a.body
    have h2:=dsync_z
    have h3:=dtick_z a.n
    have h4:=dstart_z
    have h5:=dcrash_z a.n a.torn
    have h6:=dlog_z
    have h7:=dsynced_z
    have h8:=dbook_z
    have h9:=dclock_z
    have h10:=dboot_z
    have h11:=ddone_z
    have h12:=dup_z
    repeat' (first|((first|((with_reducible apply AP.k_any);first|refine AP.S ?_|refine AP.E ?_|(refine AP.Y ?_;dsimp only)|refine AP.G (fun hg=>?_) (fun hg=>?_)|refine AP.A ?_|refine AP.AB 0 ?_|refine AP.AB 1 ?_|refine AP.AL ?_|refine AP.FV ?_))<;>(try refine NX ?_))|(refine AP.N0 ?_;try clear hQ' Q')|((with_reducible apply CP.k_reg);refine cp_regG fun Q' hQ'=>?_)|refine CP.W ?_|refine cp_cond rfl (fun hc=>?_) (fun hc=>?_)|(simp only [List.append_eq,List.cons_append,List.nil_append]))
    all_goals (exact RetQ.A [] (by exact ⟨rfl,rfl⟩))
theorem oens':OA Tryz.prog 23 1 (fun N (l:List Entry)=>(∀ e∈l,okE N e)∧l.length < N) (fun l=>[es none none l]):=oa_slice (by decide) Tryz.underlying23 (by kernel_rfl) oen
def okM0 (N:Nat) (m:Msg):Prop:=m.body.length < N∧m.entries.length < N∧m.cfg.members.length < N∧∀ e∈m.entries,e.body.length < N
theorem omg0:OA Tryz.prog 28 12 okM0 eG:=
  (oa_struct Tryz.underlying28 (by kernel_rfl) (of_cons rfl ou (of_cons rfl oi (of_cons rfl oi (of_cons rfl obs (of_cons rfl oi (of_cons rfl oi (of_cons rfl oens' (of_cons rfl oi (of_cons rfl oi (of_cons rfl ocf (of_cons rfl oi of_nil)))))))))))).map
    (fun d=>⟨d.1,d.2.1,d.2.2.1,d.2.2.2.1,d.2.2.2.2.1,d.2.2.2.2.2.1,d.2.2.2.2.2.2.1,d.2.2.2.2.2.2.2.1,d.2.2.2.2.2.2.2.2.1,d.2.2.2.2.2.2.2.2.2.1,d.2.2.2.2.2.2.2.2.2.2.1⟩) (fun _ _ _ hmn h=>⟨by have:=h.1;omega,by have:=h.2.1;omega,by have:=h.2.2.1;omega,fun e he=>by have:=h.2.2.2 e he;omega⟩)
    (fun n d h=>by
      obtain ⟨_,h1,h2,h3,h4,h5,h6,h7,h8,h9,h10,_⟩:=h
      exact ⟨h3.2,h6.2,h9.2.2,fun e he=>(h6.1 e he).2.2.2.2⟩) fun _=>rfl
theorem oga:OA Tryz.prog 30 18 (fun N (a:GAct)=>a.body.length < N∧okM0 N a.m) eGA:=
  (oa_struct Tryz.underlying30 (by kernel_rfl) (of_cons rfl oi (of_cons rfl oi (of_cons rfl oi (of_cons rfl omg0 (of_cons rfl obs (of_cons rfl oi (of_cons rfl oi of_nil)))))))).map
    (fun d=>⟨d.1,d.2.1,d.2.2.1,d.2.2.2.1,d.2.2.2.2.1,d.2.2.2.2.2.1,d.2.2.2.2.2.2.1⟩) (fun _ _ _ hmn h=>⟨by have:=h.1;omega,by have:=h.2.1;omega,by have:=h.2.2.1;omega,by have:=h.2.2.2.1;omega,fun e he=>by have:=h.2.2.2.2 e he;omega⟩)
    (fun n d h=>⟨h.2.2.2.2.1.2,h.2.2.2.1⟩) fun _=>rfl
set_option maxRecDepth 100000 in
theorem nodeNil_lifted (os:Os) (started:os.Started) (H:Type) (enc:TypeId×Value→H) (F:Stop.Interp) :
    ReturnsInHanded {} Tryz.checked os 3 .any ((Rows.OpenSpec.upto Rows.nodeNilSpec).pre6 enc Tryz.prog Tryz.f3 Rows.nodeNilUptoRow.domain false) (((Rows.OpenSpec.upto Rows.nodeNilSpec).at F).post enc Tryz.prog Tryz.f3 false true false false):=by
  refine returnsInHanded_of_cond (C:=Tryz.checked) (s:=Rows.OpenSpec.upto Rows.nodeNilSpec) (k:=Rows.uptoSmall) rfl own_knob started (by kernel_rfl) Tryz.func3
    (OpenSpec.witness (enc:=enc) (C:=Tryz.checked) (s:=Rows.OpenSpec.upto Rows.nodeNilSpec) (k:=Rows.uptoSmall) rfl false ⟨#[],#[.agg #[.int .i64 0,.int .i64 0,.int .i64 0,.int .u8 0,.int .i64 0,.int .i64 0,.slice none 0 0,.int .i64 0,.int .i64 0,.slice none 0 0,.int .i64 0,.int .i64 0,.int .i64 0,.slice none 0 0,.int .i64 0,.slice none 0 0,.int .i64 0,.int .i64 0]],[]⟩ 8 (by kernel_rfl) (by kernel_rfl) (by kernel_rfl)
      (x:=([.agg [.lit (.int .i64 0),.lit (.int .i64 0),.lit (.int .i64 0),.agg [.lit (.int .u8 0),.lit (.int .i64 0),.lit (.int .i64 0),.nil,.lit (.int .i64 0),.lit (.int .i64 0),.nil,.lit (.int .i64 0),.lit (.int .i64 0),.agg [.lit (.int .i64 0),.nil],.lit (.int .i64 0)],.nil,.lit (.int .i64 0),.lit (.int .i64 0)]],[],[])) (by kernel_rfl) rfl (by kernel_rfl)) ?_
  intro W base args ds gs before hval0 hW _ hk _
  have hval:∀ (j:Nat) t v,Tryz.f3.params[j]? = some t→args[j]? = some v→Value.okWide Tryz.prog W .any base t v:=hval0
  have hW':=hW
  obtain ⟨p,q,hA0,hV,rfl,hfz,hnd⟩:=hW
  have hA:DataW.TrodAll enc Tryz.prog W 0 (fun _=>true) true Tryz.f3.params.toList args.toList ds p:=hA0
  rw [Tryz.params3] at hA hval
  obtain ⟨rfl,rfl⟩:=trodVars_none hV
  have hb:=bulk_of hk
  obtain ⟨v0,vs0,d0,ds0,p0,q0,hargs,rfl,rfl,h0,r0⟩:=trodAll_cons hA
  obtain ⟨rfl,rfl,rfl⟩:=trodAll_nil r0
  obtain rfl:args=#[v0]:=by cases args;simp_all
  simp only [List.append_nil,Rows.uptoBulkAll,Nat.add_zero] at hb
  obtain ⟨a,ha,hr0⟩:=arg_ag Tryz.underlying30 oga (hval 0 _ v0 rfl rfl) h0
  have k1:=ha.1
  obtain ⟨k2,k3,k4,k5⟩:=ha.2
  refine (ac_law (dnil_ac a ⟨by omega,by omega,by omega,by omega,fun e he=>by have:=k5 e he;omega⟩) (W:=W) (vs:=[v0]) fun φ κ=>.cons (S:=Ct.z) (T:=Ct.z) (hr0 φ κ) .nil fun _=>rfl).mono fun e W' ⟨he,hb⟩=>⟨_,he,?_⟩
  exact law_post laidOut rfl (by kernel_rfl) Tryz.underlying4 (by kernel_rfl) hW' (fun gs' h=>by subst h;rfl) hb
end Go.Proofs.YtdjngjjjdkdfkaaGreat
