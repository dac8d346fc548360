/-
  Texts joined: Au, Eq, Ky, Ar, Sv, Pf, Ob, Mp, Mq, Cv, Wk, Fe, Okd, Ci, Vw, Gz, Enc, Msg, G1, Bp, Q1, Q2, Q3, S0, W1, W2, W3, W4, W5.
-/
import Derived.Test.YtifebijohmlnbaaGreatZS1
import Derived.Test.YtifebijohmlnbaaGreatZS2
import Derived.DeepKeys
import Derived.MapKept
import Derived.WideShapes
import Derived.ChangeMaps4
import Derived.Laws.CopyRow
import Derived.Lib.ConvBytes
import Derived.Lib.AppendZeros
namespace Go.Proofs.YtifebijohmlnbaaGreat
set_option linter.unusedVariables false
set_option linter.unusedSimpArgs false
open Go.RowKit
set_option maxRecDepth 100000
set_option maxHeartbeats 8000000
theorem nx:type_of% (And.intro @nm (And.intro @newS.eq_1 (And.intro @plc.eq_1 (And.intro @plc.eq_2 (And.intro @spl.eq_1 (And.intro @spl.eq_2 (And.intro @bldA.eq_1 (And.intro @bldA.eq_2 (And.intro @bldS.eq_1 (And.intro @bldS.eq_2 (And.intro @zrow.eq_1 (And.intro @zrow.eq_2 (And.intro @chunks.eq_1 (And.intro @chunks.eq_2 (And.intro @ZC.val.eq_1 (And.intro @ZC.val.eq_2 (And.intro @ZC.val.eq_3 (And.intro @ZC.val.eq_4 (And.intro @ZC.val.eq_5 (And.intro @ZC.val.eq_6 (And.intro @ZC.val.eq_7 (@ZC.val.eq_8)))))))))))))))))))))):=And.intro @nm (And.intro @newS.eq_1 (And.intro @plc.eq_1 (And.intro @plc.eq_2 (And.intro @spl.eq_1 (And.intro @spl.eq_2 (And.intro @bldA.eq_1 (And.intro @bldA.eq_2 (And.intro @bldS.eq_1 (And.intro @bldS.eq_2 (And.intro @zrow.eq_1 (And.intro @zrow.eq_2 (And.intro @chunks.eq_1 (And.intro @chunks.eq_2 (And.intro @ZC.val.eq_1 (And.intro @ZC.val.eq_2 (And.intro @ZC.val.eq_3 (And.intro @ZC.val.eq_4 (And.intro @ZC.val.eq_5 (And.intro @ZC.val.eq_6 (And.intro @ZC.val.eq_7 (@ZC.val.eq_8)))))))))))))))))))))
theorem NX {G G':Prop} (K:G') (h:G'→G:=by (intro k;simp only [nx,Nat.reduceAdd,Nat.reduceSub,BEq.rfl];exact k)):G:=h K
theorem CD {G G':Prop} (K:G') (h:G'→G:=by (intro k;simp only [cond_true,cond_false,setT,List.set_cons_succ,List.set_cons_zero,List.getD_cons_succ,List.getD_cons_zero,List.set_cons_succ];exact k)):G:=h K
theorem AP.N0 {G G':Prop} (K:G') (h:G'→G:=by (intro k;(with_reducible apply AP.k_nil);first|exact AP.nil (hQ' _ k)|exact AP.nil k)):G:=h K
theorem PF0 {p:Prop} (h:p:=by ((repeat' (with_reducible apply And.intro))<;>(first|exact True.intro|exact rfl|omega|decide|(simp;omega)|(simp;done)|assumption|exact .inl rfl|(refine .inr ?_;simp;try omega)))):p:=h
/-! boxes laid back: what owns nothing as it is, the rest by steps -/
def flt:AV→Bool
 | .sl (some _) _ _ | .ob _ _ | .mo _ _=>false
 | _=>true
theorem opnA_flt (b:List Sl):∀ {a:AV},flt a=true→opnA a b=(a,b):=fun {a} h=>by
 cases a<;>first|rfl|(cases h;done)|(rename_i o k s;cases o<;>first|rfl|(cases h;done))
theorem opnC_flt:∀ {l:List AV} (b:List Sl),l.all flt=true→opnC l b=(l,b)
 | [],_,_=>rfl
 | a :: l,b,h=>by
  rw [List.all_cons,Bool.and_eq_true] at h;rw [opnC,opnA_flt b h.1];dsimp only;rw [opnC_flt b h.2]
theorem Bk.cF {b:List Sl} {k u:Nat} {T:TypeId} {l:List AV} {ks:List (Nat×Nat)} {bs:List Bx} {b2:List Sl} (h1:b[k]? = some ⟨u,.o⟩) (hf:l.all flt=true) (h2:Bk (b.set k ⟨u,.c T l⟩) ks bs b2):Bk b ((k,u) :: ks) (.c T l :: bs) b2:=.cons h1 (opnC_flt b hf) h1 h2
def BkN (T:TypeId) (ks:List (Nat×Nat)) (bs:List Bx) (k u:Nat) (p:List AV×List Sl) (b2:List Sl):Prop:=p.2[k]? = some ⟨u,.o⟩∧Bk (p.2.set k ⟨u,.c T p.1⟩) ks bs b2
theorem Bk.cN {b:List Sl} {k u:Nat} {T:TypeId} {l:List AV} {ks:List (Nat×Nat)} {bs:List Bx} {b2:List Sl} (h1:b[k]? = some ⟨u,.o⟩) (h2:BkN T ks bs k u (opnC l b) b2):Bk b ((k,u) :: ks) (.c T l :: bs) b2:=.cons h1 rfl h2.1 h2.2
theorem BkN.mk {T:TypeId} {ks:List (Nat×Nat)} {bs:List Bx} {k u:Nat} {l:List AV} {b1 b2:List Sl} (h1:b1[k]? = some ⟨u,.o⟩) (h2:Bk (b1.set k ⟨u,.c T l⟩) ks bs b2):BkN T ks bs k u (l,b1) b2:=⟨h1,h2⟩
section
variable {X:Cx} {s s':AS} {o:Oper} {av:AV} {p:Prop} {op:Op} {ops:Array Oper} {rest:List Oper} {Q:Exit→AS→Prop} {Qa:AS→Prop}
theorem AP.S (K:AP Tryz.prog X ops Q rest s') (h:smG false ops s o=some (s',p):=by exact rfl) (hp:p:=by (exact PF0)):AP Tryz.prog X ops Q (o :: rest) s:=AP.sm false h hp K
theorem AP.Z (K:AP Tryz.prog X ops Q rest s') (h:smG true ops s o=some (s',p):=by exact rfl) (hp:p:=by (exact PF0)):AP Tryz.prog X ops Q (o :: rest) s:=AP.sm true h hp K
theorem AP.E {rows:List (List AV)} {i:Nat} {f:List AV→Option AV} {c:List AV} {d:Option Nat} {ty:Nat} {pos:String} {aft:Array Edge} (K:AP Tryz.prog X ops Q rest (s.put d av)) (h:elS s op=some (rows,i,f,p):=by exact rfl) (hc:rows[i]? = some c∧f c=some av:=by (first|(refine ⟨?_,?_⟩;assumption;rfl)|((try clear kz);exact ⟨mapAt (by (first|omega|(simp;omega)|(simp;done)|assumption)),rfl⟩)|exact ⟨rfl,rfl⟩)) (hp:p:=by (exact PF0)):AP Tryz.prog X ops Q (⟨d,op,ty,pos,aft,none⟩ :: rest) s:=AP.el h hp hc K
theorem AP.Y {P:Program} {j d:Nat} {b:Bool} (h:AP P X ops Q ({ o with guard:=none } :: rest) s) (hg:o.guard=some (j,b):=by exact rfl) (hd:(ops[j]?).bind (·.dst)=some d:=by exact rfl) (hs:s.t.getD d .de=.sc (.bool b):=by exact rfl):AP P X ops Q (o :: rest) s:=AP.gyes hg hd hs h
theorem AP.T {T e k:Nat} {x y:Operand} {b u i off:Nat} {s1:List (List AV)} {c:List AV} {old:AV} {ti:TI} (K:AP Tryz.prog X ops Q rest (AS.put ⟨s.t,s.b.set b ⟨u,.r e k (s1.set i (c.set off av))⟩⟩ o.dst (.tu [])))
 (hg:o.guard=none:=by exact rfl) (ho:o.op=.store T x y:=by exact rfl) (hx:aev s x=.ep b u k i off:=by exact rfl) (hs:s.b[b]? = some ⟨u,.r e k s1⟩:=by exact rfl) (hy:aev s y=av:=by exact rfl) (hl:(av.leaf && av.known)=true:=by exact rfl)
 (hT:tt[T]? = some ti:=by exact rfl) (hn:ti.size=1:=by exact rfl) (hcl:s1[i]? = some c∧c[off]? = some old:=by (first|(refine ⟨?_,?_⟩;assumption;rfl)|((try clear kz);exact ⟨mapAt (by (first|omega|(simp;omega)|(simp;done)|assumption)),rfl⟩)|exact ⟨rfl,rfl⟩)) (ht:old.tree=false:=by exact rfl):AP Tryz.prog X ops Q (o :: rest) s:=ap_storeE hg ho hx hs hy hl hT hn hcl ht K
theorem AP.V {op:BinOp} {T T' e k:TypeId} {x y:Operand} {s1:List (List AV)} {i:TI} (K:∀ c:Bool,(c=true→s1=[])→AP Tryz.prog X ops Q rest (s.put o.dst (.sc (.bool (nz op c)))))
 (hg:o.guard=none:=by exact rfl) (ho:o.op=.binOp op T x y T':=by exact rfl) (hx:aev s x=.sl none k s1:=by exact rfl) (hy:aev s y=.sc (.slice none 0 0):=by exact rfl) (hT:tt[T]? = some i:=by exact rfl) (hk:i.kd=.sl e:=by exact rfl) (hop:op=.eql∨op=.neq:=by first|exact .inl rfl|exact .inr rfl):AP Tryz.prog X ops Q (o :: rest) s:=ap_nilsl hg ho hx hy hT hk hop K
theorem AP.F0 {op:BinOp} {T T':TypeId} {x y:Operand} {r:Bool} (K:AP Tryz.prog X ops Q rest (s.put o.dst (.sc (.bool r)))) (hg:o.guard=none:=by exact rfl) (ho:o.op=.binOp op T x y T':=by exact rfl) (hx:aev s x=.sc .nilFunc:=by exact rfl) (hy:aev s y=.sc .nilFunc:=by exact rfl) (hr:nilB op true=some r:=by exact rfl)
 (hT:(match Tryz.prog.underlying T with|some (.func _ _ _)=>true | _=>false)=true:=by kernel_rfl):AP Tryz.prog X ops Q (o :: rest) s:=AP.pure hg (pq_fneqN ho hx hy hr hT) K
theorem AP.G {P:Program} {j d:Nat} {b c:Bool} (h1:c=true→AP P X ops Q (o :: rest) ⟨s.t.set d (.sc (.bool true)),s.b⟩) (h2:c=false→AP P X ops Q (o :: rest) ⟨s.t.set d (.sc (.bool false)),s.b⟩) (hg:o.guard=some (j,b):=by exact rfl) (hd:(ops[j]?).bind (·.dst)=some d:=by exact rfl) (hs:s.t.getD d .de=.sc (.bool c):=by exact rfl):AP P X ops Q (o :: rest) s:=AP.gsplit hg hd hs h1 h2
/-! calls -/
def vsB:List (Nat×Nat)→List (Nat×Nat)→Nat→Option (Nat×Nat)
 | (j,0) :: l,p :: m,i=>match Nat.beq i j with
  | true=>some p
  | false=>vsB l m i
 | _ :: l,_ :: m,i=>vsB l m i
 | _,_,_=>none
def ksC (b:List AV) (x:List AV) (i:Nat):Option (Nat×Nat):=
 match b,x with
 | .bp j 0 _ :: b,.bp k u _ :: x=>match Nat.beq i j with
  | true=>some (k,u)
  | false=>ksC b x i
 | .pz l :: b,.pz m :: x=>match vsB l m i with
  | some r=>some r
  | none=>ksC b x i
 | .hd j 0 :: b,.hd k u :: x=>match Nat.beq i j with
  | true=>some (k,u)
  | false=>ksC b x i
 | .vp j 0 _ :: b,.vp k u _ :: x=>match Nat.beq i j with
  | true=>some (k,u)
  | false=>ksC b x i
 | _ :: b,_ :: x=>ksC b x i
 | _,_=>none
def ksB (b:List AV) (x:List AV) (i:Nat):Option (Nat×Nat):=
 match b,x with
 | .bp j 0 _ :: b,.bp k u _ :: x=>match Nat.beq i j with
  | true=>some (k,u)
  | false=>ksB b x i
 | .pz l :: b,.pz m :: x=>match vsB l m i with
  | some r=>some r
  | none=>ksB b x i
 | .hd j 0 :: b,.hd k u :: x=>match Nat.beq i j with
  | true=>some (k,u)
  | false=>ksB b x i
 | .vp j 0 _ :: b,.vp k u _ :: x=>match Nat.beq i j with
  | true=>some (k,u)
  | false=>ksB b x i
 | .fn _ c :: b,.fn _ y :: x=>match ksC c y i with
  | some r=>some r
  | none=>ksB b x i
 | _ :: b,_ :: x=>ksB b x i
 | _,_=>none
def ksA (b x:List AV) (n:Nat):List (Nat×Nat):=(List.range n).filterMap (ksB b x)
theorem AP.C {P:Program} {fn:Nat} {fo:Operand} {cap:List AV} {xs:Array Operand} {tys:Array TypeId} {al:List AV} {r:AV} {bf:List Sl} (hc:AC P fn al [] (fun v bs'=>v=r∧bs'=[])) (K:AP P X ops Q rest (AS.put ⟨s.t,(opnR r bf).2⟩ o.dst (opnR r bf).1))
 (hg:o.guard=none:=by exact rfl) (ho:o.op=.call { callee:=.value fo,args:=xs,argTypes:=tys }:=by exact rfl) (hfo:aev s fo=.fn fn cap:=by exact rfl)
 (hp:PasC false [] [] s.b (fnA cap (xs.toList.map (aev s))) al bf:=by ((repeat' (first|exact PasC.nil|apply PasC.nil|apply PasC.cons|apply PasV.leaf rfl|apply PasV.nl|apply PasV.bp rfl|apply PasV.vp rfl|apply PasV.pz|exact VsM.nil|apply VsM.cons rfl|apply PasV.lend rfl rfl rfl|apply PasV.lend rfl rfl (ro_B _)|apply PasV.lend rfl rfl (ro_M _)|apply PasV.lend rfl rfl (ro_E _ _)|apply PasV.lend rfl rfl (ro_I _)|apply PasV.lend rfl rfl (by (simp only [rn,List.map_cons,List.map_nil];first|done|rfl))|apply PasV.mv rfl|apply PasV.hk rfl|apply PasV.ag|apply PasV.fn|exact PasV.fs|apply PasV.any|exact rfl));all_goals fail)) (hnb:r.nb=true:=by exact rfl) (hfl:r.fl2b=true:=by exact rfl):AP P X ops Q (o :: rest) s:=ap_callX hg ho hfo hc hp hnb hfl K
theorem AP.CL {P:Program} {fn:Nat} {fo:Operand} {cap:List AV} {xs:Array Operand} {tys:Array TypeId} {al:List AV} {r:AV} (hc:AC P fn al [] (fun v bs'=>v=r∧bs'=[])) (K:AP P X ops Q rest (AS.put ⟨s.t,(opnR r s.b).2⟩ o.dst (opnR r s.b).1))
 (hg:o.guard=none:=by exact rfl) (ho:o.op=.call { callee:=.value fo,args:=xs,argTypes:=tys }:=by exact rfl) (hfo:aev s fo=.fn fn cap:=by exact rfl)
 (hp:PasC true [] s.b s.b (fnA cap (xs.toList.map (aev s))) al s.b:=by ((repeat' (first|exact PasC.nil|apply PasC.nil|apply PasC.cons|apply PasV.leaf rfl|apply PasV.nl|apply PasV.bp rfl|apply PasV.vp rfl|apply PasV.pz|exact VsM.nil|apply VsM.cons rfl|apply PasV.lend rfl rfl rfl|apply PasV.lend rfl rfl (ro_B _)|apply PasV.lend rfl rfl (ro_M _)|apply PasV.lend rfl rfl (ro_E _ _)|apply PasV.lend rfl rfl (ro_I _)|apply PasV.lend rfl rfl (by (simp only [rn,List.map_cons,List.map_nil];first|done|rfl))|apply PasV.mv rfl|apply PasV.hk rfl|apply PasV.ag|apply PasV.fn|exact PasV.fs|apply PasV.any|exact rfl));all_goals fail)) (hnr:NR r:=by (first|exact NR.sc|exact NR.ni|exact NR.de|exact nr_B|(apply NR.ag;intro a ha;simp only [List.mem_cons,List.not_mem_nil,or_false] at ha;rcases ha with rfl|rfl|rfl|rfl|rfl|rfl|rfl|rfl|rfl|rfl|rfl|rfl<;>first|exact NR.sc|exact NR.ni|exact NR.de|exact nr_B))) (hnb:r.nb=true:=by exact rfl) (hfl:r.fl2b=true:=by exact rfl):AP P X ops Q (o :: rest) s:=ap_callL hg ho hfo hc hp hnr hnb hfl K
theorem AP.CB (ks:List (Nat×Nat)) (n:Nat) {P:Program} {fn:Nat} {fo:Operand} {cap:List AV} {xs:Array Operand} {tys:Array TypeId} {al:List AV} {r r1:AV} {bs bs2:List Bx} {b1 bf b3:List Sl} (hc:AC P fn al bs (fun v bs'=>v=r∧bs'=bs2)) (K:AP P X ops Q rest (AS.put ⟨s.t,(opnR r1 b3).2⟩ o.dst (opnR r1 b3).1))
 (hg:o.guard=none:=by exact rfl) (ho:o.op=.call { callee:=.value fo,args:=xs,argTypes:=tys }:=by exact rfl) (hfo:aev s fo=.fn fn cap:=by exact rfl)
 (hp:PasC false ks [] s.b (fnA cap (xs.toList.map (aev s))) al b1:=by ((repeat' (first|exact PasC.nil|apply PasC.nil|apply PasC.cons|apply PasV.leaf rfl|apply PasV.nl|apply PasV.bp rfl|apply PasV.vp rfl|apply PasV.pz|exact VsM.nil|apply VsM.cons rfl|apply PasV.lend rfl rfl rfl|apply PasV.lend rfl rfl (ro_B _)|apply PasV.lend rfl rfl (ro_M _)|apply PasV.lend rfl rfl (ro_E _ _)|apply PasV.lend rfl rfl (ro_I _)|apply PasV.lend rfl rfl (by (simp only [rn,List.map_cons,List.map_nil];first|done|rfl))|apply PasV.mv rfl|apply PasV.hk rfl|apply PasV.ag|apply PasV.fn|exact PasV.fs|apply PasV.any|exact rfl));all_goals fail)) (hout:Out b1 ks bs bf:=by ((repeat' (first|exact ClsC.nil|apply ClsC.nl|apply ClsC.leaf rfl|apply ClsC.hd rfl|apply ClsC.ob rfl|apply ClsC.mo rfl|apply ClsC.mp rfl|apply ClsC.hp rfl|exact Out.nil|apply Out.cons rfl|apply Out.r rfl|apply Out.f rfl|apply ClsC.fn|apply ClsC.fz rfl (ro_B _)|apply ClsC.fz rfl (ro_M _)|apply ClsC.fz rfl (ro_E _ _)|apply ClsC.fz rfl rfl));all_goals fail)) (hl:Nat.beq bs2.length (ks.length + n)=true:=by exact rfl) (hbk:Bk (plc n bf).2 (ks ++ (plc n bf).1) bs2 b3:=by ((repeat' (first|exact Bk.nil|apply Bk.cF rfl rfl|(apply Bk.cN rfl;(try refine NX ?_);apply BkN.mk rfl)|apply Bk.r rfl));all_goals fail)) (hrn:RnV (ks ++ (plc n bf).1) r r1:=by ((repeat' (first|exact RnV.leaf rfl|exact RnV.fs|exact RnC.nil|apply RnC.cons|apply RnV.ag|apply RnV.tu|apply RnV.fn|exact RnV.bp rfl));all_goals fail)) (hfl:r1.fl2b=true:=by exact rfl):AP P X ops Q (o :: rest) s:=ap_callB n ks hg ho hfo hc hp hout hl hbk hrn hfl K
theorem AQ.CQ {P:Program} {fn:Nat} {fo:Operand} {cap:List AV} {xs:Array Operand} {tys:Array TypeId} {al:List AV} {v:Value} {r0:AV} (hc:AC P fn al [] (fun r bs'=>r=r0∧bs'=[])) (K:AQ P X ops Qa rest (s.put o.dst r0)) (hg:o.guard=none:=by exact rfl) (ho:o.op=.call { callee:=.value fo,args:=xs,argTypes:=tys }:=by exact rfl) (hfo:aev s fo=.fn fn cap:=by exact rfl)
 (hv1:r0.pv=some v:=by exact rfl) (hnt:ntC al=true:=by exact rfl) (hp:PasC true [] s.b s.b (fnA cap (xs.toList.map (aev s))) al s.b:=by ((repeat' (first|exact PasC.nil|apply PasC.nil|apply PasC.cons|apply PasV.leaf rfl|apply PasV.nl|apply PasV.bp rfl|apply PasV.vp rfl|apply PasV.pz|exact VsM.nil|apply VsM.cons rfl|apply PasV.lend rfl rfl rfl|apply PasV.lend rfl rfl (ro_B _)|apply PasV.lend rfl rfl (ro_M _)|apply PasV.lend rfl rfl (ro_E _ _)|apply PasV.lend rfl rfl (ro_I _)|apply PasV.lend rfl rfl (by (simp only [rn,List.map_cons,List.map_nil];first|done|rfl))|apply PasV.mv rfl|apply PasV.hk rfl|apply PasV.ag|apply PasV.fn|exact PasV.fs|apply PasV.any|exact rfl));all_goals fail)):AQ P X ops Qa (o :: rest) s:=AQ.pure hg (pq_call ho hfo hc hv1 hnt hp) K
/-! the same, the contract among the hypotheses -/
theorem AP.A {P:Program} {fn:Nat} {fo:Operand} {cap:List AV} {xs:Array Operand} {tys:Array TypeId} {al:List AV} {r:AV} {bf:List Sl} (K:AP P X ops Q rest (AS.put ⟨s.t,(opnR r bf).2⟩ o.dst (opnR r bf).1))
 (hg:o.guard=none:=by exact rfl) (ho:o.op=.call { callee:=.value fo,args:=xs,argTypes:=tys }:=by exact rfl) (hfo:aev s fo=.fn fn cap:=by exact rfl) (hc:AC P fn al [] (fun v bs'=>v=r∧bs'=[]):=by with_reducible assumption)
 (hp:PasC false [] [] s.b (fnA cap (xs.toList.map (aev s))) al bf:=by ((repeat' (first|exact PasC.nil|apply PasC.nil|apply PasC.cons|apply PasV.leaf rfl|apply PasV.nl|apply PasV.bp rfl|apply PasV.vp rfl|apply PasV.pz|exact VsM.nil|apply VsM.cons rfl|apply PasV.lend rfl rfl rfl|apply PasV.lend rfl rfl (ro_B _)|apply PasV.lend rfl rfl (ro_M _)|apply PasV.lend rfl rfl (ro_E _ _)|apply PasV.lend rfl rfl (ro_I _)|apply PasV.lend rfl rfl (by (simp only [rn,List.map_cons,List.map_nil];first|done|rfl))|apply PasV.mv rfl|apply PasV.hk rfl|apply PasV.ag|apply PasV.fn|exact PasV.fs|apply PasV.any|exact rfl));all_goals fail)) (hnb:r.nb=true:=by exact rfl) (hfl:r.fl2b=true:=by exact rfl):AP P X ops Q (o :: rest) s:=ap_callX hg ho hfo hc hp hnb hfl K
theorem AP.AB (n:Nat) {P:Program} {fn:Nat} {fo:Operand} {cap:List AV} {xs:Array Operand} {tys:Array TypeId} {al:List AV} {r r1:AV} {bs bs2:List Bx} {b1 bf b3:List Sl} {ks:List (Nat×Nat)} (K:AP P X ops Q rest (AS.put ⟨s.t,(opnR r1 b3).2⟩ o.dst (opnR r1 b3).1))
 (hg:o.guard=none:=by exact rfl) (ho:o.op=.call { callee:=.value fo,args:=xs,argTypes:=tys }:=by exact rfl) (hfo:aev s fo=.fn fn cap:=by exact rfl) (hc:AC P fn al bs (fun v bs'=>v=r∧bs'=bs2):=by with_reducible assumption) (hks:ksA al (fnA cap (xs.toList.map (aev s))) bs.length=ks:=by exact rfl)
 (hl:Nat.beq bs2.length (bs.length + n)=true:=by exact rfl) (hp:PasC false ks [] s.b (fnA cap (xs.toList.map (aev s))) al b1:=by ((repeat' (first|exact PasC.nil|apply PasC.nil|apply PasC.cons|apply PasV.leaf rfl|apply PasV.nl|apply PasV.bp rfl|apply PasV.vp rfl|apply PasV.pz|exact VsM.nil|apply VsM.cons rfl|apply PasV.lend rfl rfl rfl|apply PasV.lend rfl rfl (ro_B _)|apply PasV.lend rfl rfl (ro_M _)|apply PasV.lend rfl rfl (ro_E _ _)|apply PasV.lend rfl rfl (ro_I _)|apply PasV.lend rfl rfl (by (simp only [rn,List.map_cons,List.map_nil];first|done|rfl))|apply PasV.mv rfl|apply PasV.hk rfl|apply PasV.ag|apply PasV.fn|exact PasV.fs|apply PasV.any|exact rfl));all_goals fail)) (hout:Out b1 ks bs bf:=by ((repeat' (first|exact ClsC.nil|apply ClsC.nl|apply ClsC.leaf rfl|apply ClsC.hd rfl|apply ClsC.ob rfl|apply ClsC.mo rfl|apply ClsC.mp rfl|apply ClsC.hp rfl|exact Out.nil|apply Out.cons rfl|apply Out.r rfl|apply Out.f rfl|apply ClsC.fn|apply ClsC.fz rfl (ro_B _)|apply ClsC.fz rfl (ro_M _)|apply ClsC.fz rfl (ro_E _ _)|apply ClsC.fz rfl rfl));all_goals fail)) (hl2:Nat.beq ks.length bs.length=true:=by exact rfl) (hbk:Bk (plc n bf).2 (ks ++ (plc n bf).1) bs2 b3:=by ((repeat' (first|exact Bk.nil|apply Bk.cF rfl rfl|(apply Bk.cN rfl;(try refine NX ?_);apply BkN.mk rfl)|apply Bk.r rfl));all_goals fail)) (hrn:RnV (ks ++ (plc n bf).1) r r1:=by ((repeat' (first|exact RnV.leaf rfl|exact RnV.fs|exact RnC.nil|apply RnC.cons|apply RnV.ag|apply RnV.tu|apply RnV.fn|exact RnV.bp rfl));all_goals fail)) (hfl:r1.fl2b=true:=by exact rfl):AP P X ops Q (o :: rest) s:=ap_callB n ks hg ho hfo hc hp hout (by rw [Nat.eq_of_beq_eq_true hl2];exact hl) hbk hrn hfl K
theorem AP.B (n:Nat) {P:Program} {fn:Nat} {fo:Operand} {cap:List AV} {xs:Array Operand} {tys:Array TypeId} {al:List AV} {r r1:AV} {bs bs2:List Bx} {b1 bf b3:List Sl} {ks:List (Nat×Nat)} (hc:AC P fn al bs (fun v bs'=>v=r∧bs'=bs2)) (K:AP P X ops Q rest (AS.put ⟨s.t,(opnR r1 b3).2⟩ o.dst (opnR r1 b3).1))
 (hg:o.guard=none:=by exact rfl) (ho:o.op=.call { callee:=.value fo,args:=xs,argTypes:=tys }:=by exact rfl) (hfo:aev s fo=.fn fn cap:=by exact rfl) (hks:ksA al (fnA cap (xs.toList.map (aev s))) bs.length=ks:=by exact rfl)
 (hl:Nat.beq bs2.length (bs.length + n)=true:=by exact rfl) (hp:PasC false ks [] s.b (fnA cap (xs.toList.map (aev s))) al b1:=by ((repeat' (first|exact PasC.nil|apply PasC.nil|apply PasC.cons|apply PasV.leaf rfl|apply PasV.nl|apply PasV.bp rfl|apply PasV.vp rfl|apply PasV.pz|exact VsM.nil|apply VsM.cons rfl|apply PasV.lend rfl rfl rfl|apply PasV.lend rfl rfl (ro_B _)|apply PasV.lend rfl rfl (ro_M _)|apply PasV.lend rfl rfl (ro_E _ _)|apply PasV.lend rfl rfl (ro_I _)|apply PasV.lend rfl rfl (by (simp only [rn,List.map_cons,List.map_nil];first|done|rfl))|apply PasV.mv rfl|apply PasV.hk rfl|apply PasV.ag|apply PasV.fn|exact PasV.fs|apply PasV.any|exact rfl));all_goals fail)) (hout:Out b1 ks bs bf:=by ((repeat' (first|exact ClsC.nil|apply ClsC.nl|apply ClsC.leaf rfl|apply ClsC.hd rfl|apply ClsC.ob rfl|apply ClsC.mo rfl|apply ClsC.mp rfl|apply ClsC.hp rfl|exact Out.nil|apply Out.cons rfl|apply Out.r rfl|apply Out.f rfl|apply ClsC.fn|apply ClsC.fz rfl (ro_B _)|apply ClsC.fz rfl (ro_M _)|apply ClsC.fz rfl (ro_E _ _)|apply ClsC.fz rfl rfl));all_goals fail)) (hl2:Nat.beq ks.length bs.length=true:=by exact rfl) (hbk:Bk (plc n bf).2 (ks ++ (plc n bf).1) bs2 b3:=by ((repeat' (first|exact Bk.nil|apply Bk.cF rfl rfl|(apply Bk.cN rfl;(try refine NX ?_);apply BkN.mk rfl)|apply Bk.r rfl));all_goals fail)) (hrn:RnV (ks ++ (plc n bf).1) r r1:=by ((repeat' (first|exact RnV.leaf rfl|exact RnV.fs|exact RnC.nil|apply RnC.cons|apply RnV.ag|apply RnV.tu|apply RnV.fn|exact RnV.bp rfl));all_goals fail)) (hfl:r1.fl2b=true:=by exact rfl):AP P X ops Q (o :: rest) s:=ap_callB n ks hg ho hfo hc hp hout (by rw [Nat.eq_of_beq_eq_true hl2];exact hl) hbk hrn hfl K
theorem AP.AL {P:Program} {fn:Nat} {fo:Operand} {cap:List AV} {xs:Array Operand} {tys:Array TypeId} {al:List AV} {r:AV} (K:AP P X ops Q rest (AS.put ⟨s.t,(opnR r s.b).2⟩ o.dst (opnR r s.b).1))
 (hg:o.guard=none:=by exact rfl) (ho:o.op=.call { callee:=.value fo,args:=xs,argTypes:=tys }:=by exact rfl) (hfo:aev s fo=.fn fn cap:=by exact rfl) (hc:AC P fn al [] (fun v bs'=>v=r∧bs'=[]):=by with_reducible assumption)
 (hp:PasC true [] s.b s.b (fnA cap (xs.toList.map (aev s))) al s.b:=by ((repeat' (first|exact PasC.nil|apply PasC.nil|apply PasC.cons|apply PasV.leaf rfl|apply PasV.nl|apply PasV.bp rfl|apply PasV.vp rfl|apply PasV.pz|exact VsM.nil|apply VsM.cons rfl|apply PasV.lend rfl rfl rfl|apply PasV.lend rfl rfl (ro_B _)|apply PasV.lend rfl rfl (ro_M _)|apply PasV.lend rfl rfl (ro_E _ _)|apply PasV.lend rfl rfl (ro_I _)|apply PasV.lend rfl rfl (by (simp only [rn,List.map_cons,List.map_nil];first|done|rfl))|apply PasV.mv rfl|apply PasV.hk rfl|apply PasV.ag|apply PasV.fn|exact PasV.fs|apply PasV.any|exact rfl));all_goals fail)) (hnr:NR r:=by (first|exact NR.sc|exact NR.ni|exact NR.de|exact nr_B|(apply NR.ag;intro a ha;simp only [List.mem_cons,List.not_mem_nil,or_false] at ha;rcases ha with rfl|rfl|rfl|rfl|rfl|rfl|rfl|rfl|rfl|rfl|rfl|rfl<;>first|exact NR.sc|exact NR.ni|exact NR.de|exact nr_B))) (hnb:r.nb=true:=by exact rfl) (hfl:r.fl2b=true:=by exact rfl):AP P X ops Q (o :: rest) s:=ap_callL hg ho hfo hc hp hnr hnb hfl K
/-! drawn regions that only read -/
theorem AQ.S (K:AQ Tryz.prog X ops Qa rest s') (h:sqG ops s o=some (s',p):=by exact rfl) (hp:p:=by (exact PF0)):AQ Tryz.prog X ops Qa (o :: rest) s:=AQ.sm h hp K
theorem AQ.E {rows:List (List AV)} {i:Nat} {f:List AV→Option AV} {c:List AV} {d:Option Nat} {ty:Nat} {pos:String} {aft:Array Edge} (K:AQ Tryz.prog X ops Qa rest (s.put d av)) (h:elS s op=some (rows,i,f,p):=by exact rfl) (hc:rows[i]? = some c∧f c=some av:=by (first|(refine ⟨?_,?_⟩;assumption;rfl)|((try clear kz);exact ⟨mapAt (by (first|omega|(simp;omega)|(simp;done)|assumption)),rfl⟩)|exact ⟨rfl,rfl⟩)) (hp:p:=by (exact PF0)):AQ Tryz.prog X ops Qa (⟨d,op,ty,pos,aft,none⟩ :: rest) s:=AQ.el h hp hc K
theorem AQ.Y {P:Program} {j d:Nat} {b:Bool} (h:AQ P X ops Qa ({ o with guard:=none } :: rest) s) (hg:o.guard=some (j,b):=by exact rfl) (hd:(ops[j]?).bind (·.dst)=some d:=by exact rfl) (hs:s.t.getD d .de=.sc (.bool b):=by exact rfl):AQ P X ops Qa (o :: rest) s:=AQ.gyes hg hd hs h
theorem AQ.G {P:Program} {j d:Nat} {b c:Bool} (h1:c=true→AQ P X ops Qa (o :: rest) ⟨s.t.set d (.sc (.bool true)),s.b⟩) (h2:c=false→AQ P X ops Qa (o :: rest) ⟨s.t.set d (.sc (.bool false)),s.b⟩) (hg:o.guard=some (j,b):=by exact rfl) (hd:(ops[j]?).bind (·.dst)=some d:=by exact rfl) (hs:s.t.getD d .de=.sc (.bool c):=by exact rfl):AQ P X ops Qa (o :: rest) s:=AQ.gsplit hg hd hs h1 h2
/-! entering, leaving -/
theorem AC.N {fn:Nat} {F:Func} {c:Code} {nt:Nat} {args:List AV} {bs:List Bx} {Q:AV→List Bx→Prop} {b1:List Sl} (hf:Tryz.prog.funcs[fn]? = some F) (hnt:F.ntmps=nt) (K:∀ X:Cx,X.ρ=none→X.mks=true→CP Tryz.prog X c (RetQ F (bs.map Bx.isR) Q) ⟨(opnL args b1).1 ++ List.replicate (nt - args.length) (.tu []),(opnL args b1).2⟩)
 (hb:F.body=some c:=by exact rfl) (hname:(F.name == "runtime.NumGoroutine")=false:=by exact rfl) (hfl:∀ x∈args,x.fl1:=by exact fl1_all rfl) (hbk:Bk (List.replicate bs.length ⟨0,.o⟩) ((List.range bs.length).map fun i=>(i,0)) bs b1:=by ((repeat' (first|exact Bk.nil|apply Bk.cF rfl rfl|(apply Bk.cN rfl;(try refine NX ?_);apply BkN.mk rfl)|apply Bk.r rfl));all_goals fail)):AC Tryz.prog fn args bs Q:=AC.enter hf hb hname hnt hfl hbk K
section
variable {F:Func} {n:List Bool} {Q:AV→List Bx→Prop} {e:Exit} {vs:List AV} {r1 r:AV} {b1 b2:List Sl} {bs':List Bx}
theorem RetQ.B (ks:List (Nat×Nat)) (hq:Q r bs') (he:e=.normal∨e=.ret:=by first|exact .inr rfl|exact .inl rfl) (hl:ResL s F.results.toList vs:=by ((repeat' (first|exact RnV.leaf rfl|exact RnV.fs|exact RnC.nil|apply RnC.cons|apply RnV.ag|apply RnV.tu|apply RnV.fn|exact RnV.bp rfl|exact ResL.nil|apply ResL.cons (Res1.row rfl rfl rfl rfl rfl)|apply ResL.cons (Res1.flat rfl rfl rfl rfl rfl)|apply ResL.cons (Res1.tmp (by (try simp only [List.getD_cons_succ,List.getD_cons_zero]);exact rfl))|exact ClsC.nil|exact ClsL.nil|apply ClsC.nl|apply ClsC.leaf rfl|apply ClsC.hd rfl|apply ClsC.ob rfl|apply ClsC.mo rfl|apply ClsC.mp rfl|apply ClsC.hp rfl|apply ClsC.fn|apply ClsR.tu|apply ClsL.cons|apply ClsV.ag|exact ClsV.bp|exact ClsV.fs|exact ClsV.one (ClsC.leaf rfl ClsC.nil)|exact ClsV.one (ClsC.nl ClsC.nil)|exact ClsV.one (ClsC.hd rfl ClsC.nil)|apply ClsR.one|exact Out.nil|apply Out.cons rfl|apply Out.r rfl|apply Out.f rfl|exact hks_of rfl|exact ClsV.fn));all_goals fail)) (hc:ClsR s.b (resV vs) r1 b1:=by ((repeat' (first|exact RnV.leaf rfl|exact RnV.fs|exact RnC.nil|apply RnC.cons|apply RnV.ag|apply RnV.tu|apply RnV.fn|exact RnV.bp rfl|exact ResL.nil|apply ResL.cons (Res1.row rfl rfl rfl rfl rfl)|apply ResL.cons (Res1.flat rfl rfl rfl rfl rfl)|apply ResL.cons (Res1.tmp (by (try simp only [List.getD_cons_succ,List.getD_cons_zero]);exact rfl))|exact ClsC.nil|exact ClsL.nil|apply ClsC.nl|apply ClsC.leaf rfl|apply ClsC.hd rfl|apply ClsC.ob rfl|apply ClsC.mo rfl|apply ClsC.mp rfl|apply ClsC.hp rfl|apply ClsC.fn|apply ClsR.tu|apply ClsL.cons|apply ClsV.ag|exact ClsV.bp|exact ClsV.fs|exact ClsV.one (ClsC.leaf rfl ClsC.nil)|exact ClsV.one (ClsC.nl ClsC.nil)|exact ClsV.one (ClsC.hd rfl ClsC.nil)|apply ClsR.one|exact Out.nil|apply Out.cons rfl|apply Out.r rfl|apply Out.f rfl|exact hks_of rfl|exact ClsV.fn));all_goals fail)) (hr:RnV (mskK s.b.length n ks) r r1:=by ((repeat' (first|exact RnV.leaf rfl|exact RnV.fs|exact RnC.nil|apply RnC.cons|apply RnV.ag|apply RnV.tu|apply RnV.fn|exact RnV.bp rfl|exact ResL.nil|apply ResL.cons (Res1.row rfl rfl rfl rfl rfl)|apply ResL.cons (Res1.flat rfl rfl rfl rfl rfl)|apply ResL.cons (Res1.tmp (by (try simp only [List.getD_cons_succ,List.getD_cons_zero]);exact rfl))|exact ClsC.nil|exact ClsL.nil|apply ClsC.nl|apply ClsC.leaf rfl|apply ClsC.hd rfl|apply ClsC.ob rfl|apply ClsC.mo rfl|apply ClsC.mp rfl|apply ClsC.hp rfl|apply ClsC.fn|apply ClsR.tu|apply ClsL.cons|apply ClsV.ag|exact ClsV.bp|exact ClsV.fs|exact ClsV.one (ClsC.leaf rfl ClsC.nil)|exact ClsV.one (ClsC.nl ClsC.nil)|exact ClsV.one (ClsC.hd rfl ClsC.nil)|apply ClsR.one|exact Out.nil|apply Out.cons rfl|apply Out.r rfl|apply Out.f rfl|exact hks_of rfl|exact ClsV.fn));all_goals fail)) (ho:Out b1 ks bs' b2:=by ((repeat' (first|exact RnV.leaf rfl|exact RnV.fs|exact RnC.nil|apply RnC.cons|apply RnV.ag|apply RnV.tu|apply RnV.fn|exact RnV.bp rfl|exact ResL.nil|apply ResL.cons (Res1.row rfl rfl rfl rfl rfl)|apply ResL.cons (Res1.flat rfl rfl rfl rfl rfl)|apply ResL.cons (Res1.tmp (by (try simp only [List.getD_cons_succ,List.getD_cons_zero]);exact rfl))|exact ClsC.nil|exact ClsL.nil|apply ClsC.nl|apply ClsC.leaf rfl|apply ClsC.hd rfl|apply ClsC.ob rfl|apply ClsC.mo rfl|apply ClsC.mp rfl|apply ClsC.hp rfl|apply ClsC.fn|apply ClsR.tu|apply ClsL.cons|apply ClsV.ag|exact ClsV.bp|exact ClsV.fs|exact ClsV.one (ClsC.leaf rfl ClsC.nil)|exact ClsV.one (ClsC.nl ClsC.nil)|exact ClsV.one (ClsC.hd rfl ClsC.nil)|apply ClsR.one|exact Out.nil|apply Out.cons rfl|apply Out.r rfl|apply Out.f rfl|exact hks_of rfl|exact ClsV.fn));all_goals fail))
 (hk:∀ i,i < n.length→ks[i]? = some (i,0):=by exact hks_of rfl) (hkk:kOk n bs'=true:=by exact rfl):RetQ F n Q e s:=.mk2 he hl hc hr ho hk hkk hq
theorem RetQ.A (ks:List (Nat×Nat)) (hq:Q r bs') (he:e=.normal∨e=.ret:=by first|exact .inr rfl|exact .inl rfl) (hr:RnV (mskK s.b.length n ks) r r1:=by ((repeat' (first|exact RnV.leaf rfl|exact RnV.fs|exact RnC.nil|apply RnC.cons|apply RnV.ag|apply RnV.tu|apply RnV.fn|exact RnV.bp rfl|exact ResL.nil|apply ResL.cons (Res1.row rfl rfl rfl rfl rfl)|apply ResL.cons (Res1.flat rfl rfl rfl rfl rfl)|apply ResL.cons (Res1.tmp (by (try simp only [List.getD_cons_succ,List.getD_cons_zero]);exact rfl))|exact ClsC.nil|exact ClsL.nil|apply ClsC.nl|apply ClsC.leaf rfl|apply ClsC.hd rfl|apply ClsC.ob rfl|apply ClsC.mo rfl|apply ClsC.mp rfl|apply ClsC.hp rfl|apply ClsC.fn|apply ClsR.tu|apply ClsL.cons|apply ClsV.ag|exact ClsV.bp|exact ClsV.fs|exact ClsV.one (ClsC.leaf rfl ClsC.nil)|exact ClsV.one (ClsC.nl ClsC.nil)|exact ClsV.one (ClsC.hd rfl ClsC.nil)|apply ClsR.one|exact Out.nil|apply Out.cons rfl|apply Out.r rfl|apply Out.f rfl|exact hks_of rfl|exact ClsV.fn));all_goals fail)) (hl:ResL s F.results.toList vs:=by ((repeat' (first|exact RnV.leaf rfl|exact RnV.fs|exact RnC.nil|apply RnC.cons|apply RnV.ag|apply RnV.tu|apply RnV.fn|exact RnV.bp rfl|exact ResL.nil|apply ResL.cons (Res1.row rfl rfl rfl rfl rfl)|apply ResL.cons (Res1.flat rfl rfl rfl rfl rfl)|apply ResL.cons (Res1.tmp (by (try simp only [List.getD_cons_succ,List.getD_cons_zero]);exact rfl))|exact ClsC.nil|exact ClsL.nil|apply ClsC.nl|apply ClsC.leaf rfl|apply ClsC.hd rfl|apply ClsC.ob rfl|apply ClsC.mo rfl|apply ClsC.mp rfl|apply ClsC.hp rfl|apply ClsC.fn|apply ClsR.tu|apply ClsL.cons|apply ClsV.ag|exact ClsV.bp|exact ClsV.fs|exact ClsV.one (ClsC.leaf rfl ClsC.nil)|exact ClsV.one (ClsC.nl ClsC.nil)|exact ClsV.one (ClsC.hd rfl ClsC.nil)|apply ClsR.one|exact Out.nil|apply Out.cons rfl|apply Out.r rfl|apply Out.f rfl|exact hks_of rfl|exact ClsV.fn));all_goals fail)) (hc:ClsR s.b (resV vs) r1 b1:=by ((repeat' (first|exact RnV.leaf rfl|exact RnV.fs|exact RnC.nil|apply RnC.cons|apply RnV.ag|apply RnV.tu|apply RnV.fn|exact RnV.bp rfl|exact ResL.nil|apply ResL.cons (Res1.row rfl rfl rfl rfl rfl)|apply ResL.cons (Res1.flat rfl rfl rfl rfl rfl)|apply ResL.cons (Res1.tmp (by (try simp only [List.getD_cons_succ,List.getD_cons_zero]);exact rfl))|exact ClsC.nil|exact ClsL.nil|apply ClsC.nl|apply ClsC.leaf rfl|apply ClsC.hd rfl|apply ClsC.ob rfl|apply ClsC.mo rfl|apply ClsC.mp rfl|apply ClsC.hp rfl|apply ClsC.fn|apply ClsR.tu|apply ClsL.cons|apply ClsV.ag|exact ClsV.bp|exact ClsV.fs|exact ClsV.one (ClsC.leaf rfl ClsC.nil)|exact ClsV.one (ClsC.nl ClsC.nil)|exact ClsV.one (ClsC.hd rfl ClsC.nil)|apply ClsR.one|exact Out.nil|apply Out.cons rfl|apply Out.r rfl|apply Out.f rfl|exact hks_of rfl|exact ClsV.fn));all_goals fail)) (ho:Out b1 ks bs' b2:=by ((repeat' (first|exact RnV.leaf rfl|exact RnV.fs|exact RnC.nil|apply RnC.cons|apply RnV.ag|apply RnV.tu|apply RnV.fn|exact RnV.bp rfl|exact ResL.nil|apply ResL.cons (Res1.row rfl rfl rfl rfl rfl)|apply ResL.cons (Res1.flat rfl rfl rfl rfl rfl)|apply ResL.cons (Res1.tmp (by (try simp only [List.getD_cons_succ,List.getD_cons_zero]);exact rfl))|exact ClsC.nil|exact ClsL.nil|apply ClsC.nl|apply ClsC.leaf rfl|apply ClsC.hd rfl|apply ClsC.ob rfl|apply ClsC.mo rfl|apply ClsC.mp rfl|apply ClsC.hp rfl|apply ClsC.fn|apply ClsR.tu|apply ClsL.cons|apply ClsV.ag|exact ClsV.bp|exact ClsV.fs|exact ClsV.one (ClsC.leaf rfl ClsC.nil)|exact ClsV.one (ClsC.nl ClsC.nil)|exact ClsV.one (ClsC.hd rfl ClsC.nil)|apply ClsR.one|exact Out.nil|apply Out.cons rfl|apply Out.r rfl|apply Out.f rfl|exact hks_of rfl|exact ClsV.fn));all_goals fail))
 (hk:∀ i,i < n.length→ks[i]? = some (i,0):=by exact hks_of rfl) (hkk:kOk n bs'=true:=by exact rfl):RetQ F n Q e s:=.mk2 he hl hc hr ho hk hkk hq
theorem RetQ.Fz (ks:List (Nat×Nat)) (hq:Q r bs') (he:e=.normal∨e=.ret:=by first|exact .inr rfl|exact .inl rfl) (hl:ResL s F.results.toList vs:=by ((repeat' (first|exact RnV.leaf rfl|exact RnV.fs|exact RnC.nil|apply RnC.cons|apply RnV.ag|apply RnV.tu|apply RnV.fn|exact RnV.bp rfl|exact ResL.nil|apply ResL.cons (Res1.row rfl rfl rfl rfl rfl)|apply ResL.cons (Res1.flat rfl rfl rfl rfl rfl)|apply ResL.cons (Res1.tmp (by (try simp only [List.getD_cons_succ,List.getD_cons_zero]);exact rfl))|exact ClsC.nil|exact ClsL.nil|apply ClsC.nl|apply ClsC.leaf rfl|apply ClsC.fz rfl (ro_B _)|apply ClsC.fz rfl (ro_M _)|apply ClsC.fz rfl (ro_E _ _)|apply ClsC.fz rfl rfl|apply ClsC.ob rfl|apply ClsC.mo rfl|apply ClsC.mp rfl|apply ClsC.hp rfl|apply ClsC.fn|apply ClsR.tu|apply ClsL.cons|apply ClsV.ag|exact ClsV.bp|exact ClsV.fs|exact ClsV.one (ClsC.leaf rfl ClsC.nil)|exact ClsV.one (ClsC.nl ClsC.nil)|exact ClsV.one (ClsC.fz rfl (ro_B _) ClsC.nil)|exact ClsV.one (ClsC.fz rfl (ro_M _) ClsC.nil)|exact ClsV.one (ClsC.fz rfl (ro_E _ _) ClsC.nil)|exact ClsV.one (ClsC.fz rfl rfl ClsC.nil)|apply ClsR.one|exact Out.nil|apply Out.cons rfl|apply Out.r rfl|apply Out.f rfl|exact hks_of rfl|exact ClsV.fn));all_goals fail)) (hc:ClsR s.b (resV vs) r1 b1:=by ((repeat' (first|exact RnV.leaf rfl|exact RnV.fs|exact RnC.nil|apply RnC.cons|apply RnV.ag|apply RnV.tu|apply RnV.fn|exact RnV.bp rfl|exact ResL.nil|apply ResL.cons (Res1.row rfl rfl rfl rfl rfl)|apply ResL.cons (Res1.flat rfl rfl rfl rfl rfl)|apply ResL.cons (Res1.tmp (by (try simp only [List.getD_cons_succ,List.getD_cons_zero]);exact rfl))|exact ClsC.nil|exact ClsL.nil|apply ClsC.nl|apply ClsC.leaf rfl|apply ClsC.fz rfl (ro_B _)|apply ClsC.fz rfl (ro_M _)|apply ClsC.fz rfl (ro_E _ _)|apply ClsC.fz rfl rfl|apply ClsC.ob rfl|apply ClsC.mo rfl|apply ClsC.mp rfl|apply ClsC.hp rfl|apply ClsC.fn|apply ClsR.tu|apply ClsL.cons|apply ClsV.ag|exact ClsV.bp|exact ClsV.fs|exact ClsV.one (ClsC.leaf rfl ClsC.nil)|exact ClsV.one (ClsC.nl ClsC.nil)|exact ClsV.one (ClsC.fz rfl (ro_B _) ClsC.nil)|exact ClsV.one (ClsC.fz rfl (ro_M _) ClsC.nil)|exact ClsV.one (ClsC.fz rfl (ro_E _ _) ClsC.nil)|exact ClsV.one (ClsC.fz rfl rfl ClsC.nil)|apply ClsR.one|exact Out.nil|apply Out.cons rfl|apply Out.r rfl|apply Out.f rfl|exact hks_of rfl|exact ClsV.fn));all_goals fail)) (hr:RnV (mskK s.b.length n ks) r r1:=by ((repeat' (first|exact RnV.leaf rfl|exact RnV.fs|exact RnC.nil|apply RnC.cons|apply RnV.ag|apply RnV.tu|apply RnV.fn|exact RnV.bp rfl|exact ResL.nil|apply ResL.cons (Res1.row rfl rfl rfl rfl rfl)|apply ResL.cons (Res1.flat rfl rfl rfl rfl rfl)|apply ResL.cons (Res1.tmp (by (try simp only [List.getD_cons_succ,List.getD_cons_zero]);exact rfl))|exact ClsC.nil|exact ClsL.nil|apply ClsC.nl|apply ClsC.leaf rfl|apply ClsC.fz rfl (ro_B _)|apply ClsC.fz rfl (ro_M _)|apply ClsC.fz rfl (ro_E _ _)|apply ClsC.fz rfl rfl|apply ClsC.ob rfl|apply ClsC.mo rfl|apply ClsC.mp rfl|apply ClsC.hp rfl|apply ClsC.fn|apply ClsR.tu|apply ClsL.cons|apply ClsV.ag|exact ClsV.bp|exact ClsV.fs|exact ClsV.one (ClsC.leaf rfl ClsC.nil)|exact ClsV.one (ClsC.nl ClsC.nil)|exact ClsV.one (ClsC.fz rfl (ro_B _) ClsC.nil)|exact ClsV.one (ClsC.fz rfl (ro_M _) ClsC.nil)|exact ClsV.one (ClsC.fz rfl (ro_E _ _) ClsC.nil)|exact ClsV.one (ClsC.fz rfl rfl ClsC.nil)|apply ClsR.one|exact Out.nil|apply Out.cons rfl|apply Out.r rfl|apply Out.f rfl|exact hks_of rfl|exact ClsV.fn));all_goals fail)) (ho:Out b1 ks bs' b2:=by ((repeat' (first|exact RnV.leaf rfl|exact RnV.fs|exact RnC.nil|apply RnC.cons|apply RnV.ag|apply RnV.tu|apply RnV.fn|exact RnV.bp rfl|exact ResL.nil|apply ResL.cons (Res1.row rfl rfl rfl rfl rfl)|apply ResL.cons (Res1.flat rfl rfl rfl rfl rfl)|apply ResL.cons (Res1.tmp (by (try simp only [List.getD_cons_succ,List.getD_cons_zero]);exact rfl))|exact ClsC.nil|exact ClsL.nil|apply ClsC.nl|apply ClsC.leaf rfl|apply ClsC.fz rfl (ro_B _)|apply ClsC.fz rfl (ro_M _)|apply ClsC.fz rfl (ro_E _ _)|apply ClsC.fz rfl rfl|apply ClsC.ob rfl|apply ClsC.mo rfl|apply ClsC.mp rfl|apply ClsC.hp rfl|apply ClsC.fn|apply ClsR.tu|apply ClsL.cons|apply ClsV.ag|exact ClsV.bp|exact ClsV.fs|exact ClsV.one (ClsC.leaf rfl ClsC.nil)|exact ClsV.one (ClsC.nl ClsC.nil)|exact ClsV.one (ClsC.fz rfl (ro_B _) ClsC.nil)|exact ClsV.one (ClsC.fz rfl (ro_M _) ClsC.nil)|exact ClsV.one (ClsC.fz rfl (ro_E _ _) ClsC.nil)|exact ClsV.one (ClsC.fz rfl rfl ClsC.nil)|apply ClsR.one|exact Out.nil|apply Out.cons rfl|apply Out.r rfl|apply Out.f rfl|exact hks_of rfl|exact ClsV.fn));all_goals fail))
 (hk:∀ i,i < n.length→ks[i]? = some (i,0):=by exact hks_of rfl) (hkk:kOk n bs'=true:=by exact rfl):RetQ F n Q e s:=.mk2 he hl hc hr ho hk hkk hq
end
theorem Gh.W {t:List AV} {b:List Sl} (h:Wks s ⟨t,b⟩:=by ((try simp only [setT,deT,setB,List.set_cons_succ,List.set_cons_zero]);(refine ⟨?_,?_⟩<;>(try dsimp only)<;>(repeat' (first|exact Wk.nil|exact WkB.nil|apply Wk.same|apply Wk.de|apply Wk.nl|apply WkB.same|apply WkB.drop)));all_goals fail)):Gh s ⟨t,b⟩:=gh_wk h
end
/-! steps of the code that turn nothing -/
theorem CP.go {G G':Prop} (K:G') (h:G'→G:=by (intro k;(with_reducible first|refine cp_block ?_|refine cp_exit ?_|refine cp_ret ?_|refine cp_skip ?_|refine cp_seq ?_|refine inB_hit ?_|refine inB_n ?_|refine inB_r ?_|refine thenQ_n ?_|refine thenQ_r ?_|refine thenQ_e ?_|refine cpn_succ ?_);(repeat (with_reducible first|refine cp_block ?_|refine cp_exit ?_|refine cp_ret ?_|refine cp_skip ?_|refine cp_seq ?_|refine inB_hit ?_|refine inB_n ?_|refine inB_r ?_|refine thenQ_n ?_|refine thenQ_r ?_|refine thenQ_e ?_|refine cpn_succ ?_));exact k)):G:=h K
theorem CP.W {G G':Prop} (K:G') (h:G'→G:=by (intro k;first|(with_reducible apply CP.k_reg1;exact cp_region k)|(with_reducible apply CP.k_cond;first|exact cp_condT rfl k|exact cp_condF rfl k)|exact CP.go k)):G:=h K
/-! drawn regions -/
section
variable {s:AS} {ops:Array Oper} {all:List Oper} {K:AS→Prop} {acc:List Fp} {l:List Oper} {av:AV} {op:Op} {ty:Nat} {pos:String} {aft:Array Edge} {g:Option (Nat×Bool)} {d:Nat} {T:List Nat} {F:List Nat} {b2:List Sl} {r:Bool}
theorem DW.R (hk:DW Tryz.prog ops all K (⟨T,some d,F,false⟩ :: acc) l ⟨s.t.set d av,s.b⟩) (hg:gdS ops s g=some r:=by exact rfl) (hT:opTs ops ⟨some d,op,ty,pos,aft,g⟩=T:=by (simp only [ft,nm,Nat.reduceAdd,Nat.reduceBEq,List.getElem?_cons_zero,List.getElem?_cons_succ];exact rfl)) (hF:ftF 0 s op=F:=by (simp only [ft,nm,Nat.reduceAdd,Nat.reduceBEq,List.getElem?_cons_zero,List.getElem?_cons_succ];exact rfl)) (h:∀ X V,AP Tryz.prog X ops (fun e s'=>e=.normal∧s'=⟨(msT T 0 s.t).set d av,msB F V 0 s.b⟩) [⟨some d,op,ty,pos,aft,g⟩] ⟨msT T 0 s.t,msB F V 0 s.b⟩:=by (intro X V;simp only [ft,nm,Nat.reduceAdd,Nat.reduceBEq];(first|refine AP.S ?_|((try (refine AP.Y ?_;dsimp only));first|refine AP.E ?_|refine AP.T ?_|refine AP.F0 ?_));(try refine NX ?_);refine AP.nil ?_;first|exact ⟨trivial,rfl⟩|exact ⟨rfl,rfl⟩)) (hy:nyF F 0 s.b=true:=by exact rfl) :
 DW Tryz.prog ops all K acc (⟨some d,op,ty,pos,aft,g⟩ :: l) s:=DW.rd 0 hT hF h hk hy
theorem DW.R' (hk:DW Tryz.prog ops all K (⟨T,none,F,false⟩ :: acc) l s) (hg:gdS ops s g=some r:=by exact rfl) (hT:opTs ops ⟨none,op,ty,pos,aft,g⟩=T:=by (simp only [ft,nm,Nat.reduceAdd,Nat.reduceBEq,List.getElem?_cons_zero,List.getElem?_cons_succ];exact rfl)) (hF:ftF 0 s op=F:=by (simp only [ft,nm,Nat.reduceAdd,Nat.reduceBEq,List.getElem?_cons_zero,List.getElem?_cons_succ];exact rfl)) (h:∀ X V,AP Tryz.prog X ops (fun e s'=>e=.normal∧s'=⟨msT T 0 s.t,msB F V 0 s.b⟩) [⟨none,op,ty,pos,aft,g⟩] ⟨msT T 0 s.t,msB F V 0 s.b⟩:=by (intro X V;simp only [ft,nm,Nat.reduceAdd,Nat.reduceBEq];(first|refine AP.S ?_|((try (refine AP.Y ?_;dsimp only));refine AP.E ?_));(try refine NX ?_);refine AP.nil ?_;first|exact ⟨trivial,rfl⟩|exact ⟨rfl,rfl⟩)) (hy:nyF F 0 s.b=true:=by exact rfl) :
 DW Tryz.prog ops all K acc (⟨none,op,ty,pos,aft,g⟩ :: l) s:=DW.rdN 0 hT hF h hk hy
theorem DW.W (hk:DW Tryz.prog ops all K (⟨T,some d,F,true⟩ :: acc) l ⟨s.t.set d av,b2⟩) (hg:gdS ops s g=some r:=by exact rfl) (hT:opTs ops ⟨some d,op,ty,pos,aft,g⟩=T:=by (simp only [ft,nm,Nat.reduceAdd,Nat.reduceBEq,List.getElem?_cons_zero,List.getElem?_cons_succ];exact rfl)) (hF:ftF 1 s op=F:=by (simp only [ft,nm,Nat.reduceAdd,Nat.reduceBEq,List.getElem?_cons_zero,List.getElem?_cons_succ];exact rfl)) (h:∀ X V,AP Tryz.prog X ops (fun e s'=>e=.normal∧s'.t=(msT T 0 s.t).set d av∧Mg F V 0 s.b s'.b b2) [⟨some d,op,ty,pos,aft,g⟩] ⟨msT T 0 s.t,msB F V 0 s.b⟩:=by (intro X V;simp only [ft,nm,Nat.reduceAdd,Nat.reduceBEq];(first|refine AP.S ?_|((try (refine AP.Y ?_;dsimp only));first|refine AP.E ?_|refine AP.T ?_));(try refine NX ?_);refine AP.nil ?_;(first|refine ⟨trivial,rfl,?_⟩|refine ⟨rfl,rfl,?_⟩);(repeat' (first|exact Mg.nil|apply Mg.keep rfl|apply Mg.take rfl));all_goals fail))
 (hb:(∃ V:Nat→Nat,∃ b1,Mg F V 0 s.b b1 b2):=by (refine Exists.intro (fun _=>0) ?_;apply Exists.intro;(repeat' (first|exact Mg.nil|apply Mg.keep rfl|apply Mg.take rfl));all_goals fail)) (hy:nyF F 0 s.b=true:=by exact rfl) (hy2:nyF F 0 b2=true:=by exact rfl):DW Tryz.prog ops all K acc (⟨some d,op,ty,pos,aft,g⟩ :: l) s:=DW.st 1 hT hF h hb hk hy hy2
theorem DW.W' (hk:DW Tryz.prog ops all K (⟨T,none,F,true⟩ :: acc) l ⟨s.t,b2⟩) (hg:gdS ops s g=some r:=by exact rfl) (hT:opTs ops ⟨none,op,ty,pos,aft,g⟩=T:=by (simp only [ft,nm,Nat.reduceAdd,Nat.reduceBEq,List.getElem?_cons_zero,List.getElem?_cons_succ];exact rfl)) (hF:ftF 1 s op=F:=by (simp only [ft,nm,Nat.reduceAdd,Nat.reduceBEq,List.getElem?_cons_zero,List.getElem?_cons_succ];exact rfl)) (h:∀ X V,AP Tryz.prog X ops (fun e s'=>e=.normal∧s'.t=msT T 0 s.t∧Mg F V 0 s.b s'.b b2) [⟨none,op,ty,pos,aft,g⟩] ⟨msT T 0 s.t,msB F V 0 s.b⟩:=by (intro X V;simp only [ft,nm,Nat.reduceAdd,Nat.reduceBEq];(first|refine AP.S ?_|((try (refine AP.Y ?_;dsimp only));first|refine AP.E ?_|refine AP.T ?_));(try refine NX ?_);refine AP.nil ?_;(first|refine ⟨trivial,rfl,?_⟩|refine ⟨rfl,rfl,?_⟩);(repeat' (first|exact Mg.nil|apply Mg.keep rfl|apply Mg.take rfl));all_goals fail))
 (hb:(∃ V:Nat→Nat,∃ b1,Mg F V 0 s.b b1 b2):=by (refine Exists.intro (fun _=>0) ?_;apply Exists.intro;(repeat' (first|exact Mg.nil|apply Mg.keep rfl|apply Mg.take rfl));all_goals fail)) (hy:nyF F 0 s.b=true:=by exact rfl) (hy2:nyF F 0 b2=true:=by exact rfl):DW Tryz.prog ops all K acc (⟨none,op,ty,pos,aft,g⟩ :: l) s:=DW.stN 1 hT hF h hb hk hy hy2
theorem DW.A (m:Nat) (hk:DW Tryz.prog ops all K (⟨T,some d,F,true⟩ :: acc) l ⟨s.t.set d av,b2⟩) (hg:gdS ops s g=some r:=by exact rfl) (hT:opTs ops ⟨some d,op,ty,pos,aft,g⟩=T:=by (simp only [ft,nm,Nat.reduceAdd,Nat.reduceBEq,List.getElem?_cons_zero,List.getElem?_cons_succ];exact rfl)) (hF:ftF m s op=F:=by (simp only [ft,nm,Nat.reduceAdd,Nat.reduceBEq,List.getElem?_cons_zero,List.getElem?_cons_succ];exact rfl)) (h:∀ X V,AP Tryz.prog X ops (fun e s'=>e=.normal∧s'.t=(msT T 0 s.t).set d av∧Mg F V 0 s.b s'.b b2) [⟨some d,op,ty,pos,aft,g⟩] ⟨msT T 0 s.t,msB F V 0 s.b⟩:=by (intro X V;simp only [ft,nm,Nat.reduceAdd,Nat.reduceBEq];(try (refine AP.Y ?_;dsimp only));(first|refine AP.A ?_|refine AP.AB 0 ?_|refine AP.AB 1 ?_|refine AP.AL ?_);(try refine NX ?_);refine AP.nil ?_;(first|refine ⟨trivial,rfl,?_⟩|refine ⟨rfl,rfl,?_⟩);(repeat' (first|exact Mg.nil|apply Mg.keep rfl|apply Mg.take rfl));all_goals fail))
 (hb:(∃ V:Nat→Nat,∃ b1,Mg F V 0 s.b b1 b2):=by (refine Exists.intro (fun _=>0) ?_;apply Exists.intro;(repeat' (first|exact Mg.nil|apply Mg.keep rfl|apply Mg.take rfl));all_goals fail)) (hy:nyF F 0 s.b=true:=by exact rfl) (hy2:nyF F 0 b2=true:=by exact rfl):DW Tryz.prog ops all K acc (⟨some d,op,ty,pos,aft,g⟩ :: l) s:=DW.st m hT hF h hb hk hy hy2
theorem DW.RA (hk:DW Tryz.prog ops all K (⟨T,some d,F,false⟩ :: acc) l ⟨s.t.set d av,s.b⟩) (hg:gdS ops s g=some r:=by exact rfl) (hT:opTs ops ⟨some d,op,ty,pos,aft,g⟩=T:=by (simp only [ft,nm,Nat.reduceAdd,Nat.reduceBEq,List.getElem?_cons_zero,List.getElem?_cons_succ];exact rfl)) (hF:ftF 0 s op=F:=by (simp only [ft,nm,Nat.reduceAdd,Nat.reduceBEq,List.getElem?_cons_zero,List.getElem?_cons_succ];exact rfl)) (h:∀ X V,AP Tryz.prog X ops (fun e s'=>e=.normal∧s'=⟨(msT T 0 s.t).set d av,msB F V 0 s.b⟩) [⟨some d,op,ty,pos,aft,g⟩] ⟨msT T 0 s.t,msB F V 0 s.b⟩:=by (intro X V;simp only [ft,nm,Nat.reduceAdd,Nat.reduceBEq];(try (refine AP.Y ?_;dsimp only));(first|refine AP.A ?_|refine AP.AB 0 ?_|refine AP.AL ?_);(try refine NX ?_);refine AP.nil ?_;first|exact ⟨trivial,rfl⟩|exact ⟨rfl,rfl⟩)) (hy:nyF F 0 s.b=true:=by exact rfl) :
 DW Tryz.prog ops all K acc (⟨some d,op,ty,pos,aft,g⟩ :: l) s:=DW.rd 0 hT hF h hk hy
theorem DW.nl (hk:K s) (h:okD all acc.reverse=true:=by kernel_rfl):DW Tryz.prog ops all K acc [] s:=DW.nil h hk
end
theorem cp_drwX {X:Cx} {s:AS} {Q:Exit→AS→Prop} {id:Nat} {l:List Oper} {y:Code} (h:∀ Q':AS→Prop,(∀ s',CP Tryz.prog X y Q s'→Q' s')→DW Tryz.prog l.toArray l Q' [] l s) (hm:Tryz.prog.follows .mixedOrders=true:=by kernel_rfl) (hf:fwdB 0 l=true:=by kernel_rfl):CP Tryz.prog X (.seq (.region id l.toArray true) y) Q s:=cp_drwW hm hf h
theorem cp_drawX {X:Cx} {s:AS} {Q:Exit→AS→Prop} {id:Nat} {l:List Oper} (h:DW Tryz.prog l.toArray l (fun s'=>Q .normal s') [] l s) (hm:Tryz.prog.follows .mixedOrders=true:=by kernel_rfl) (hf:fwdB 0 l=true:=by kernel_rfl):CP Tryz.prog X (.region id l.toArray true) Q s:=cp_drawW hm hf h
inductive Sh where
 | i (k:IntKind)
 | b
 | s
deriving DecidableEq
/-- a cell held against another one -/
def eqV1:Value→Value→Bool
 | .int _ a,.int _ b=>a == b
 | .bool a,.bool b=>a == b
 | .string a,.string b=>a.toList == b.toList
 | _,_=>false
def eqVs:List Value→List Value→Bool
 | [],[]=>true
 | x :: l,y :: m=>eqV1 x y && eqVs l m
 | _,_=>false
def shC1:Sh→Value→Bool
 | .i k,.int k' _=>decide (k'=k)
 | .b,.bool _=>true
 | .s,.string _=>true
 | _,_=>false
def shC:List Sh→List Value→Bool
 | [],[]=>true
 | h :: l,v :: m=>shC1 h v && shC l m
 | _,_=>false
def repS (sh:List Sh):Nat→List Sh
 | 0=>[]
 | n + 1=>sh ++ repS sh n
def aggT (P:Program) (t:TypeId):Bool:=match P.underlying t with
 | some (.struct _)|some (.array _ _)=>true
 | _=>false
def flatFs (f:TypeId→Option (List Sh)):Nat→List Field→Option (List Sh)
 | _,[]=>some []
 | off,x :: l=>match x.name != "_" && Nat.beq x.offset off,f x.type with
  | true,some sh=>match flatFs f (off + sh.length) l with
   | some r=>some (sh ++ r)
   | none=>none
  | _,_=>none
def flatT (P:Program):Nat→TypeId→Option (List Sh)
 | 0,_=>none
 | d + 1,t=>match P.underlying t with
  | some .bool=>some [.b]
  | some (.int k)=>some [.i k]
  | some .string=>some [.s]
  | some (.array n e)=>match flatT P d e with
   | some sh=>match Nat.beq (P.cellsOf e) sh.length with
    | true=>some (repS sh n)
    | false=>none
   | none=>none
  | some (.struct fs)=>match P.stoodInHeld t with
   | true=>none
   | false=>flatFs (fun u=>match flatT P d u with
    | some sh=>match Nat.beq (P.cellsOf u) sh.length with
     | true=>some sh
     | false=>none
    | none=>none) 0 fs.toList
  | _=>none
theorem eqVs_append:∀ {a b c d:List Value},a.length=b.length→eqVs (a ++ c) (b ++ d)=(eqVs a b && eqVs c d)
 | [],[],c,d,_=>by simp [eqVs]
 | x :: a,y :: b,c,d,h=>by simp only [List.cons_append,eqVs];rw [eqVs_append (by simpa using h),Bool.and_assoc]
theorem shC_length:∀ {sh:List Sh} {vs:List Value},shC sh vs=true→vs.length=sh.length
 | [],[],_=>rfl
 | _ :: l,_ :: m,h=>by simp only [shC,Bool.and_eq_true] at h;simp [shC_length h.2]
theorem shC_split:∀ {a b:List Sh} {vs:List Value},shC (a ++ b) vs=true→shC a (vs.take a.length)=true∧shC b (vs.drop a.length)=true
 | [],b,vs,h=>⟨by simp [shC],by simpa using h⟩
 | x :: a,b,[],h=>by simp [shC] at h
 | x :: a,b,v :: vs,h=>by
  simp only [List.cons_append,shC,Bool.and_eq_true] at h;have:=shC_split h.2;simp only [List.length_cons,List.take_succ_cons,shC,Bool.and_eq_true,List.drop_succ_cons];exact ⟨⟨h.1,this.1⟩,this.2⟩
def valT (P:Program) (t:TypeId) (cs:List Value):Value:=match aggT P t with
 | true=>.agg cs.toArray
 | false=>cs.headD undef
section
variable {P:Program}
theorem run_part_flat {d:Nat} {e:TypeId} {sh:List Sh} (hf:flatT P d e=some sh) (hn:P.cellsOf e=sh.length) (w:World) (xs:List Value) (off:Nat) (h:shC sh ((xs.drop off).take sh.length)=true) :
 (part e xs.toArray off).run P w=.ok (valT P e ((xs.drop off).take sh.length)) w:=by
 have hl:=shC_length h
 cases d with
 | zero=>simp [flatT] at hf
 | succ d=>
  cases hu:P.underlying e with
  | none=>simp [flatT,hu] at hf
  | some kd=>
   obtain ⟨i,hi⟩:=info_of_underlying hu
   have agg:aggT P e=true→(part e xs.toArray off).run P w=.ok (valT P e ((xs.drop off).take sh.length)) w:=by
    intro ha
    have hk:(∃ n e',kd=.array n e')∨(∃ fs,kd=.struct fs):=by
     unfold aggT at ha;rw [hu] at ha
     cases kd<;>simp at ha<;>first|exact .inl ⟨_,_,rfl⟩|exact .inr ⟨_,rfl⟩
    have hs:(sizeOf e).run P w=.ok sh.length w:=by rw [run_sizeOf w hi,hn]
    unfold part valT;rw [ha]
    have hx:(xs.toArray.extract off (off + sh.length))=((xs.drop off).take sh.length).toArray:=by
     simp [List.extract_toArray,List.extract_eq_take_drop]
    rcases hk with ⟨n,e',rfl⟩|⟨fs,rfl⟩<;>simp [Sem.run_bind,isAgg,run_underlying hu,hs,hx,Result.andThen_ok]
   have one:aggT P e=false→sh.length=1→(part e xs.toArray off).run P w=.ok (valT P e ((xs.drop off).take sh.length)) w:=by
    intro ha h1
    have hk:(isAgg e).run P w=.ok false w:=by
     unfold aggT at ha;rw [hu] at ha
     cases kd<;>simp at ha<;>simp [isAgg,Sem.run_bind,run_underlying hu,Result.andThen_ok]
    rw [h1] at hl h ⊢;unfold part valT;rw [ha]
    obtain ⟨v,hv⟩:∃ v,xs[off]? = some v:=by
     rw [List.length_take,List.length_drop] at hl;exact ⟨_,List.getElem?_eq_getElem (by omega)⟩
    have hd:(xs.drop off).take 1=[v]:=by
     have h2:off < xs.length:=(List.getElem?_eq_some_iff.1 hv).1;rw [List.drop_eq_getElem_cons h2];rw [List.getElem?_eq_getElem h2] at hv;simp at hv;simp [hv]
    rw [hd];simp [Sem.run_bind,hk,Result.andThen_ok,hv]
   cases hA:aggT P e with
   | true=>exact agg hA
   | false=>
    refine one hA ?_;unfold flatT at hf;rw [hu] at hf;unfold aggT at hA;rw [hu] at hA
    cases kd<;>simp at hf hA<;>(subst hf;rfl)
def EqF (P:Program) (dd:Nat) (t:TypeId) (sh:List Sh):Prop:=
 ∀ (w:World) (xs ys:List Value),shC sh xs=true→shC sh ys=true→(Op.equalIn dd t (valT P t xs) (valT P t ys)).run P w=.ok (eqVs xs ys) w
theorem valT_agg {t:TypeId} {cs:List Value} (h:aggT P t=true):valT P t cs=.agg cs.toArray:=by unfold valT;rw [h]
theorem run_eqFields_flat {dd:Nat} {f:TypeId→Option (List Sh)} (hf:∀ u sh,f u=some sh→P.cellsOf u=sh.length∧(∃ d,flatT P d u=some sh)∧EqF P dd u sh) (xs ys:List Value) (w:World):∀ (fs:List Field) (off:Nat) (sh:List Sh),flatFs f off fs=some sh →
 shC sh (xs.drop off)=true→shC sh (ys.drop off)=true→(Op.eqFields dd xs.toArray ys.toArray fs).run P w=.ok (eqVs (xs.drop off) (ys.drop off)) w
 | [],off,sh,h,h1,h2=>by
  simp only [flatFs,Option.some.injEq] at h;subst h
  have a1:=List.length_eq_zero_iff.1 (shC_length h1);have a2:=List.length_eq_zero_iff.1 (shC_length h2);simp [Op.eqFields,a1,a2,eqVs]
 | x :: l,off,sh,h,h1,h2=>by
  unfold flatFs at h;split at h<;>try cases h
  rename_i sx hx hfx
  split at h<;>try cases h
  rename_i r hr
  simp only [Bool.and_eq_true,bne_iff_ne,ne_eq] at hx;obtain ⟨hn,ho⟩:=hx;have ho:x.offset=off:=Nat.eq_of_beq_eq_true ho;obtain ⟨k1,⟨d,k2⟩,k3⟩:=hf _ _ hfx;obtain ⟨a1,a2⟩:=shC_split h1;obtain ⟨b1,b2⟩:=shC_split h2;rw [List.drop_drop] at a2 b2;have p1:=run_part_flat k2 k1 w xs off a1;have p2:=run_part_flat k2 k1 w ys off b1;have p3:=k3 w _ _ a1 b1;have ih:=run_eqFields_flat hf xs ys w l (off + sx.length) r hr a2 b2
  have e:eqVs (xs.drop off) (ys.drop off)=(eqVs ((xs.drop off).take sx.length) ((ys.drop off).take sx.length) && eqVs (xs.drop (off + sx.length)) (ys.drop (off + sx.length))):=by
   rw [←List.drop_drop,←List.drop_drop,←eqVs_append (by rw [shC_length a1,shC_length b1]),List.take_append_drop,List.take_append_drop]
  simp only [Op.eqFields,hn,ne_eq,not_false_eq_true,if_true,Sem.run_bind];rw [ho,p1];simp only [Result.andThen_ok,p2,p3];rw [e]
  cases eqVs ((xs.drop off).take sx.length) ((ys.drop off).take sx.length) with
  | false=>simp
  | true=>simpa using ih
theorem run_eqItems_flat {dd:Nat} {e:TypeId} {sh:List Sh} (hn:P.cellsOf e=sh.length) (hd:∃ d,flatT P d e=some sh) (hE:EqF P dd e sh) (xs ys:List Value) (w:World):∀ (m k:Nat),
 shC (repS sh m) (xs.drop (k * sh.length))=true→shC (repS sh m) (ys.drop (k * sh.length))=true→(Op.eqItems dd e (P.cellsOf e) xs.toArray ys.toArray (List.range' k m)).run P w=.ok (eqVs (xs.drop (k * sh.length)) (ys.drop (k * sh.length))) w
 | 0,k,h1,h2=>by
  have a1:=List.length_eq_zero_iff.1 (shC_length h1);have a2:=List.length_eq_zero_iff.1 (shC_length h2);simp [Op.eqItems,a1,a2,eqVs]
 | m + 1,k,h1,h2=>by
  obtain ⟨d,k2⟩:=hd;obtain ⟨a1,a2⟩:=shC_split (a:=sh) (b:=repS sh m) h1;obtain ⟨b1,b2⟩:=shC_split (a:=sh) (b:=repS sh m) h2;have hk:k * sh.length + sh.length=(k + 1) * sh.length:=by rw [Nat.add_mul];omega
  rw [List.drop_drop,hk] at a2 b2;have p1:=run_part_flat k2 hn w xs (k * sh.length) a1;have p2:=run_part_flat k2 hn w ys (k * sh.length) b1;have p3:=hE w _ _ a1 b1;have ih:=run_eqItems_flat hn ⟨d,k2⟩ hE xs ys w m (k + 1) a2 b2
  have e:eqVs (xs.drop (k * sh.length)) (ys.drop (k * sh.length))=(eqVs ((xs.drop (k * sh.length)).take sh.length) ((ys.drop (k * sh.length)).take sh.length) && eqVs (xs.drop ((k + 1) * sh.length)) (ys.drop ((k + 1) * sh.length))):=by
   rw [←hk,←List.drop_drop,←List.drop_drop,←eqVs_append (by rw [shC_length a1,shC_length b1]),List.take_append_drop,List.take_append_drop]
  rw [List.range'_succ];simp only [Op.eqItems,Sem.run_bind];rw [hn] at ih ⊢;rw [p1];simp only [Result.andThen_ok,p2,p3];rw [e]
  cases eqVs ((xs.drop (k * sh.length)).take sh.length) ((ys.drop (k * sh.length)).take sh.length) with
  | false=>simp
  | true=>simpa using ih
theorem eqF:∀ (d k:Nat) (t:TypeId) (sh:List Sh),flatT P d t=some sh→EqF P (k + d) t sh
 | 0,_,_,_,h=>by simp [flatT] at h
 | d + 1,k,t,sh,h=>by
  intro w xs ys hx hy;have hall:=h;unfold flatT at h
  have two:∀ {h0:Sh},sh=[h0]→∃ v u,xs=[v]∧ys=[u]∧shC1 h0 v=true∧shC1 h0 u=true:=by
   intro h0 hs;subst hs;have l1:=shC_length hx;have l2:=shC_length hy;obtain ⟨v,rfl⟩:=List.length_eq_one_iff.1 l1;obtain ⟨u,rfl⟩:=List.length_eq_one_iff.1 l2;exact ⟨v,u,rfl,rfl,by simpa [shC] using hx,by simpa [shC] using hy⟩
  split at h<;>try cases h
  ·rename_i hu
   obtain ⟨v,u,rfl,rfl,h1,h2⟩:=two rfl
   cases v<;>simp [shC1] at h1
   cases u<;>simp [shC1] at h2
   simp [valT,aggT,hu,eqVs,eqV1,run_equalIn_bool w (k + d) t _ _ hu,←Nat.add_assoc]
  ·rename_i q hu
   obtain ⟨v,u,rfl,rfl,h1,h2⟩:=two rfl
   cases v<;>simp [shC1] at h1
   cases u<;>simp [shC1] at h2
   subst h1;subst h2
   simp [valT,aggT,hu,eqVs,eqV1,run_equalIn_int (w:=w) (k + d) t _ _ _ _ hu,←Nat.add_assoc]
  ·rename_i hu
   obtain ⟨v,u,rfl,rfl,h1,h2⟩:=two rfl
   cases v<;>simp [shC1] at h1
   cases u<;>simp [shC1] at h2
   simp [valT,aggT,hu,eqVs,eqV1,run_equalIn_string (w:=w) (k + d) t _ _ hu,←Nat.add_assoc]
  ·rename_i n e hu
   split at h<;>try cases h
   rename_i sh0 hf
   split at h<;>cases h
   rename_i hn
   have hn:=Nat.eq_of_beq_eq_true hn;have hA:aggT P t=true:=by unfold aggT;rw [hu]
   obtain ⟨i,hi⟩:∃ i,P.info? e=some i:=by
    cases d with
    | zero=>simp [flatT] at hf
    | succ d=>
     cases hu2:P.underlying e with
     | none=>simp [flatT,hu2] at hf
     | some kd=>exact info_of_underlying hu2
   rw [valT_agg hA,valT_agg hA,←Nat.add_assoc,run_equalIn_array w (k + d) _ _ hu hi,List.range_eq_range'];have:=run_eqItems_flat hn ⟨d,hf⟩ (eqF d k e sh0 hf) xs ys w n 0 (by simpa using hx) (by simpa using hy)
   simpa using this
  ·rename_i fs hu
   split at h<;>try cases h
   rename_i hst
   have hA:aggT P t=true:=by unfold aggT;rw [hu]
   have hfs:P.fieldsOf t=fs:=by unfold Program.fieldsOf;rw [hu]
   rw [valT_agg hA,valT_agg hA,←Nat.add_assoc,run_equalIn_struct w (k + d) t _ _ (by rw [hfs];exact hu) hst,hfs]
   have:=run_eqFields_flat (dd:=k + d) (fun u s hs=>by
    split at hs<;>try cases hs
    rename_i s' hs'
    split at hs<;>cases hs
    rename_i hn
    exact ⟨Nat.eq_of_beq_eq_true hn,⟨d,hs'⟩,eqF d k u _ hs'⟩) xs ys w fs.toList 0 sh h (by simpa using hx) (by simpa using hy)
   simpa using this
theorem run_eq_flat {t:TypeId} {sh:List Sh} {xs ys:List Value} (hf:flatT P 9 t=some sh) (hA:aggT P t=true) (hx:shC sh xs=true) (hy:shC sh ys=true) (w:World):(Op.equal t (.agg xs.toArray) (.agg ys.toArray)).run P w=.ok (eqVs xs ys) w:=by
 have:=eqF 9 9991 t sh hf w xs ys hx hy;rw [valT_agg hA,valT_agg hA] at this;exact this
end
def flatOK (P:Program) (t:TypeId) (xs ys:List Value):Bool:=match flatT P 9 t with
 | some sh=>aggT P t && shC sh xs && shC sh ys
 | none=>false
theorem run_eq_ok {P:Program} {t:TypeId} {xs ys:List Value} (h:flatOK P t xs ys=true) (w:World):(Op.equal t (.agg xs.toArray) (.agg ys.toArray)).run P w=.ok (eqVs xs ys) w:=by
 unfold flatOK at h;split at h
 ·rename_i sh hf
  simp only [Bool.and_eq_true] at h;exact run_eq_flat hf h.1.1 h.1.2 h.2 w
 ·cases h
/-- the law at an operation -/
theorem pq_eqF {X:Cx} {s:AS} {o:Oper} {op:BinOp} {T T':TypeId} {x y:Operand} {l l':List AV} {vs us:List Value} {r:Bool} (ho:o.op=.binOp op T x y T') (hx:aev s x=.ag l) (hy:aev s y=.ag l') (hl:scs l=some vs) (hl':scs l'=some us)
 (hgd:Tryz.prog.eqGuardType Tryz.prog.depth T=false) (hf:flatOK Tryz.prog T vs us=true) (hr:nilB op (eqVs vs us)=some r):Pq Tryz.prog X s o (.sc (.bool r)):=
 pq_eqAg ho hx hy hl hl' hgd (run_eq_ok hf) hr
section
variable {X:Cx} {s:AS} {ops:Array Oper} {rest:List Oper} {Q:Exit→AS→Prop} {Qa:AS→Prop} {d:Option Nat} {ty:Nat} {pos:String} {aft:Array Edge} {op:BinOp} {T T':TypeId} {x y:Operand} {l l':List AV} {vs us:List Value} {r:Bool}
theorem AP.EQ (K:AP Tryz.prog X ops Q rest (s.put d (.sc (.bool r)))) (hx:aev s x=.ag l:=by exact rfl) (hy:aev s y=.ag l':=by exact rfl) (hl:scs l=some vs:=by exact rfl) (hl':scs l'=some us:=by exact rfl)
 (hgd:Tryz.prog.eqGuardType Tryz.prog.depth T=false:=by kernel_rfl) (hf:flatOK Tryz.prog T vs us=true:=by kernel_rfl) (hr:nilB op (eqVs vs us)=some r:=by exact rfl):AP Tryz.prog X ops Q (⟨d,.binOp op T x y T',ty,pos,aft,none⟩ :: rest) s:=
 AP.pure rfl (pq_eqF rfl hx hy hl hl' hgd hf hr) K
end
theorem ba_beq (a b:ByteArray):(a == b)=(a.data.toList == b.data.toList):=by
 cases a;cases b
 show ByteArray.beq _ _=_
 unfold ByteArray.beq;simp
def kEq:Value→Value→Bool
 | .agg a,.agg b=>eqVs a.toList b.toList
 | a,b=>eqV1 a b
/-- where a key stands -/
def fnd (k:Value):List Value→Option Nat
 | []=>none
 | x :: l=>match kEq k x with
  | true=>some 0
  | false=>match fnd k l with
   | some n=>some (n + 1)
   | none=>none
/-- a key of a type -/
def isKey (P:Program) (K:TypeId) (sh:List Sh) (v:Value):Bool:=match aggT P K with
 | true=>match v with
  | .agg cs=>shC sh cs.toList
  | _=>false
 | false=>match v with
  | .agg _=>false
  | v=>shC sh [v]
theorem fnd_lt {k:Value}:∀ {l:List Value} {n:Nat},fnd k l=some n→n < l.length
 | [],_,h=>by simp [fnd] at h
 | x :: l,n,h=>by
  unfold fnd at h;split at h
  ·injection h with h;subst h;simp
  ·split at h<;>cases h
   rename_i hm
   have:=fnd_lt hm;simp;omega
theorem fnd_at {k:Value}:∀ {l:List Value} {n:Nat},fnd k l=some n→∃ x,l[n]? = some x∧kEq k x=true
 | [],_,h=>by simp [fnd] at h
 | x :: l,n,h=>by
  unfold fnd at h;split at h
  ·rename_i hx;injection h with h;subst h;exact ⟨x,rfl,hx⟩
  ·split at h<;>cases h
   rename_i hm
   simpa using fnd_at hm
theorem fnd_app {k:Value}:∀ {l m:List Value},fnd k l=none→fnd k (l ++ m)=(fnd k m).map (· + l.length)
 | [],m,_=>by simp
 | x :: l,m,h=>by
  unfold fnd at h;split at h
  ·cases h
  ·rename_i hx
   split at h<;>cases h
   rename_i hm
   simp only [List.cons_append,fnd,hx,fnd_app hm]
   cases fnd k m with
   | none=>rfl
   | some n=>simp;omega
theorem eqV1_eq {h:Sh} {u v:Value} (hu:shC1 h u=true) (hv:shC1 h v=true) (he:eqV1 u v=true):u=v:=by
 cases h<;>cases u<;>simp [shC1] at hu<;>cases v<;>simp [shC1] at hv<;>simp [eqV1] at he
 ·subst hu;subst hv;subst he;rfl
 ·subst he;rfl
 ·congr 1
  rw [ByteArray.toList_eq,ByteArray.toList_eq] at he;exact Go.WideShapes.bytes_inj he
theorem eqVs_eq:∀ {sh:List Sh} {us vs:List Value},shC sh us=true→shC sh vs=true→eqVs us vs=true→us=vs
 | [],[],[],_,_,_=>rfl
 | h :: sh,u :: us,v :: vs,h1,h2,he=>by
  simp only [shC,eqVs,Bool.and_eq_true] at h1 h2 he;rw [eqV1_eq h1.1 h2.1 he.1,eqVs_eq h1.2 h2.2 he.2]
section
variable {P:Program} {K:TypeId} {sh:List Sh} {w:World}
theorem isKey_val {v:Value} (h:isKey P K sh v=true):∃ cs,v=valT P K cs∧shC sh cs=true:=by
 unfold isKey at h;split at h
 ·rename_i hA
  split at h
  ·rename_i cs;exact ⟨cs.toList,by rw [valT_agg hA],h⟩
  ·cases h
 ·rename_i hA
  split at h
  ·cases h
  ·exact ⟨[v],by simp [valT,hA],h⟩
theorem kEq_val {a b:Value} (ha:isKey P K sh a=true) (hb:isKey P K sh b=true):∃ xs ys,a=valT P K xs∧b=valT P K ys∧shC sh xs=true∧shC sh ys=true∧kEq a b=eqVs xs ys:=by
 unfold isKey at ha hb
 cases hA:aggT P K with
 | true=>
  rw [hA] at ha hb
  cases a<;>simp at ha
  cases b<;>simp at hb
  rename_i x y
  exact ⟨x.toList,y.toList,by rw [valT_agg hA],by rw [valT_agg hA],ha,hb,rfl⟩
 | false=>
  rw [hA] at ha hb;dsimp only at ha hb;refine ⟨[a],[b],by simp [valT,hA],by simp [valT,hA],?_,?_,?_⟩
  ·cases a<;>first|exact ha|(simp at ha;done)
  ·cases b<;>first|exact hb|(simp at hb;done)
  ·have:kEq a b=eqV1 a b:=by
    cases a<;>first|rfl|(simp at ha;done)
   rw [this];simp [eqVs]
theorem kEq_eq {a b:Value} (ha:isKey P K sh a=true) (hb:isKey P K sh b=true) (h:kEq a b=true):a=b:=by
 obtain ⟨xs,ys,rfl,rfl,h1,h2,h3⟩:=kEq_val ha hb;rw [h3] at h;rw [eqVs_eq h1 h2 h]
theorem run_key_eq {a b:Value} (hf:flatT P 9 K=some sh) (ha:isKey P K sh a=true) (hb:isKey P K sh b=true):(Op.equal K a b).run P w=.ok (kEq a b) w:=by
 obtain ⟨xs,ys,rfl,rfl,h1,h2,h3⟩:=kEq_val ha hb;rw [h3];exact eqF 9 9991 K sh hf w xs ys h1 h2
def fndE (k:Value) (es:List MapEntry):Option (Nat×Value):=match fnd k (es.map (·.key)) with
 | some n=>some (n,(es[n]?.map (·.val)).getD undef)
 | none=>none
theorem run_findAsking_flat {k:Value} (hf:flatT P 9 K=some sh) (hk:isKey P K sh k=true):∀ (es:List MapEntry) (i:Nat),(∀ e∈es,isKey P K sh e.key=true) →
 (Instr.findAsking K k es i).run P w=.ok ((fndE k es).map fun x=>(i + x.1,x.2)) w
 | [],i,_=>by simp [Instr.findAsking,fndE,fnd]
 | e :: es,i,h=>by
  have h1:=run_key_eq (w:=w) hf hk (h e (by simp));have ih:=run_findAsking_flat hf hk es (i + 1) fun x hx=>h x (by simp [hx])
  simp only [Instr.findAsking,Sem.run_bind,h1,Result.andThen_ok]
  cases hq:kEq k e.key with
  | true=>simp [fndE,fnd,hq]
  | false=>
   simp only [Bool.false_eq_true,if_false,ih]
   congr 1
   simp only [fndE,List.map_cons,fnd,hq]
   cases fnd k (es.map (·.key)) with
   | none=>rfl
   | some n=>simp;omega
theorem findNow_flat {d:TypeDesc} {k:Value} (hs:∀ e:Value,isKey P K sh e=true→Instr.sameNow d k e=some (kEq k e)):∀ (es:List MapEntry) (i:Nat),(∀ e∈es,isKey P K sh e.key=true)→Instr.findNow d k es i=some ((fndE k es).map fun x=>(i + x.1,x.2))
 | [],i,_=>by simp [Instr.findNow,fndE,fnd]
 | e :: es,i,h=>by
  have ih:=findNow_flat hs es (i + 1) fun x hx=>h x (by simp [hx])
  simp only [Instr.findNow,hs e.key (h e (by simp))]
  cases hq:kEq k e.key with
  | true=>simp [fndE,fnd,hq]
  | false=>
   dsimp only;rw [ih]
   congr 1
   simp only [fndE,List.map_cons,fnd,hq]
   cases fnd k (es.map (·.key)) with
   | none=>rfl
   | some n=>simp;omega
theorem run_findKey_flat {k:Value} {es:List MapEntry} (hf:flatT P 9 K=some sh) (hk:isKey P K sh k=true) (h:∀ e∈es,isKey P K sh e.key=true):(Instr.findKey K k es).run P w=.ok (fndE k es) w:=by
 have hid:(fndE k es).map (fun x=>(0 + x.1,x.2))=fndE k es:=by cases fndE k es<;>simp
 cases hu:P.underlying K with
 | none=>simp [flatT,hu] at hf
 | some d=>
  cases hA:aggT P K with
  | true=>
   have hd:∀ a b:Value,Instr.sameNow d a b=none:=by
    unfold aggT at hA;rw [hu] at hA;intro a b
    cases d<;>simp at hA<;>rfl
   cases es with
   | nil=>simp [Instr.findKey,run_underlying hu,Result.andThen,Instr.findNow,fndE,fnd]
   | cons e es=>
    have h0:Instr.findNow d k (e :: es) 0=none:=by simp [Instr.findNow,hd]
    have:=run_findAsking_flat (w:=w) hf hk (e :: es) 0 h;rw [hid] at this;simp [Instr.findKey,run_underlying hu,Result.andThen,h0,this]
  | false=>
   have hs:∀ e:Value,isKey P K sh e=true→Instr.sameNow d k e=some (kEq k e):=fun e he=>by
    unfold isKey at hk he;rw [hA] at hk he;unfold flatT at hf;rw [hu] at hf;unfold aggT at hA;rw [hu] at hA
    cases d<;>simp at hf hA
    all_goals
     subst hf
     cases k<;>simp [shC,shC1] at hk
     cases e<;>simp [shC,shC1] at he
    ·rfl
    ·subst hk;subst he;simp [Instr.sameNow,kEq,eqV1]
    ·simp only [Instr.sameNow,kEq,eqV1]
     congr 1
     rename_i a b
     rw [ByteArray.toList_eq,ByteArray.toList_eq];exact ba_beq _ _
   have:=findNow_flat hs es 0 h;rw [hid] at this;exact MapKept.run_findKey hu this
theorem run_checkKey_flat (em:Bool):∀ (d n:Nat) (t:TypeId) (sh:List Sh) (cs:List Value) (w:World),flatT P d t=some sh→shC sh cs=true→(Instr.checkKey em (n + d) t (valT P t cs)).run P w=.ok () w
 | 0,_,_,_,_,_,h,_=>by simp [flatT] at h
 | d + 1,n,t,sh,cs,w,h,hc=>by
  unfold flatT at h
  have two:∀ {h0:Sh},sh=[h0]→∃ v,cs=[v]∧shC1 h0 v=true:=by
   intro h0 hs;subst hs;have l1:=shC_length hc;obtain ⟨v,rfl⟩:=List.length_eq_one_iff.1 l1;exact ⟨v,rfl,by simpa [shC] using hc⟩
  rw [←Nat.add_assoc,Instr.checkKey];split at h<;>try cases h
  ·rename_i hu
   obtain ⟨v,rfl,h1⟩:=two rfl
   cases v<;>simp [shC1] at h1
   simp [valT,aggT,hu,run_underlying hu,Result.andThen_ok,Sem.run_bind]
  ·rename_i q hu
   obtain ⟨v,rfl,h1⟩:=two rfl
   cases v<;>simp [shC1] at h1
   simp [valT,aggT,hu,run_underlying hu,Result.andThen_ok,Sem.run_bind]
  ·rename_i hu
   obtain ⟨v,rfl,h1⟩:=two rfl
   cases v<;>simp [shC1] at h1
   simp [valT,aggT,hu,run_underlying hu,Result.andThen_ok,Sem.run_bind]
  ·rename_i m e hu
   split at h<;>try cases h
   rename_i sh0 hf
   split at h<;>cases h
   rename_i hn
   have hn:=Nat.eq_of_beq_eq_true hn;have hA:aggT P t=true:=by unfold aggT;rw [hu]
   obtain ⟨i,hi⟩:∃ i,P.info? e=some i:=by
    cases d with
    | zero=>simp [flatT] at hf
    | succ d=>
     cases hu2:P.underlying e with
     | none=>simp [flatT,hu2] at hf
     | some kd=>exact info_of_underlying hu2
   rw [valT_agg hA];simp only [Sem.run_bind,run_underlying hu,Result.andThen_ok];simp only [Std.Legacy.Range.forIn_eq_forIn_range',Std.Legacy.Range.size,Nat.sub_zero,Nat.add_one_sub_one,Nat.div_one]
   have key:∀ (m k:Nat),shC (repS sh0 m) (cs.drop (k * sh0.length))=true→∀ b:PUnit,(forIn (List.range' k m) b fun i _=>(do
    let sz ←sizeOf e
    let v ←part e cs.toArray (i * sz)
    Instr.checkKey em (n + d) e v
    pure (ForInStep.yield PUnit.unit):Sem (ForInStep PUnit))).run P w=.ok PUnit.unit w:=by
    intro m
    induction m with
    | zero=>intro k _ b;simp
    | succ m ih=>
     intro k hk b;obtain ⟨a1,a2⟩:=shC_split (a:=sh0) (b:=repS sh0 m) hk;rw [List.drop_drop,show k * sh0.length + sh0.length=(k + 1) * sh0.length by rw [Nat.add_mul];omega] at a2;have p1:=run_part_flat hf hn w cs (k * sh0.length) a1;have p2:=run_checkKey_flat em d n e sh0 _ w hf a1;rw [List.range'_succ];simp only [List.forIn_cons,Sem.run_bind,run_sizeOf w hi,Result.andThen_ok,hn,p1,p2,Sem.run_pure];exact ih (k + 1) a2 _
   rw [key m 0 (by simpa using hc) PUnit.unit];rfl
  ·rename_i fs hu
   split at h<;>try cases h
   have hA:aggT P t=true:=by unfold aggT;rw [hu]
   rw [valT_agg hA];simp only [Sem.run_bind,run_underlying hu,Result.andThen_ok];rw [←Array.forIn_toList];generalize fs.toList=L at h;have hc0:shC sh (cs.drop 0)=true:=by simpa using hc
   clear hc two
   revert h hc0
   generalize 0=off;intro h hc0
   induction L generalizing off sh with
   | nil=>simp
   | cons x L ih=>
    unfold flatFs at h;split at h<;>try cases h
    rename_i sx hx hfx
    split at h<;>try cases h
    rename_i r hr
    split at hfx<;>try cases hfx
    rename_i sx' hfx'
    split at hfx<;>cases hfx
    rename_i hcl
    simp only [Bool.and_eq_true,bne_iff_ne,ne_eq] at hx;obtain ⟨hnm,hof⟩:=hx;have hof:x.offset=off:=Nat.eq_of_beq_eq_true hof;obtain ⟨a1,a2⟩:=shC_split hc0;rw [List.drop_drop] at a2;have p1:=run_part_flat hfx' (Nat.eq_of_beq_eq_true hcl) w cs off a1;have p2:=run_checkKey_flat em d n x.type sx _ w hfx' a1;simp only [List.forIn_cons,Sem.run_bind,hnm,ne_eq,not_false_eq_true,if_true,Result.andThen_ok,hof,p1,p2,Sem.run_pure];exact ih _ _ hr a2
theorem run_check {k:Value} (em:Bool) (hf:flatT P 9 K=some sh) (hk:isKey P K sh k=true):(Instr.checkKey em 10000 K k).run P w=.ok () w:=by
 obtain ⟨cs,rfl,h⟩:=isKey_val hk;exact run_checkKey_flat em 9 9991 K sh cs w hf h
theorem sameBits1 {h:Sh} {v:Value} (n:Nat) (hs:shC1 h v=true):Instr.sameBits n v v=true:=by
 have hb:∀ s:ByteArray,(s == s)=true:=fun s=>by rw [ba_beq];simp
 cases h<;>cases v<;>simp [shC1] at hs<;>(cases n<;>simp [Instr.sameBits,hb])
theorem run_stays {k:Value} (hk:isKey P K sh k=true):(Instr.keyThatStays k k).run P w=.ok k w:=by
 have:Instr.sameBits 10000 k k=true:=by
  unfold isKey at hk;split at hk
  ·split at hk
   ·rename_i cs
    rw [show (10000:Nat)=9999 + 1 from rfl,Instr.sameBits];simp only [beq_self_eq_true,Bool.true_and,List.all_eq_true]
    have key:∀ {sh:List Sh} {l:List Value},shC sh l=true→∀ x∈l.zip l,Instr.sameBits 9999 x.1 x.2=true:=by
     intro sh
     induction sh with
     | nil=>intro l h x hx;cases l<;>simp [shC] at h;simp at hx
     | cons h0 sh ih=>
      intro l h x hx
      cases l with
      | nil=>simp [shC] at h
      | cons v l=>
       simp only [shC,Bool.and_eq_true] at h;simp only [List.zip_cons_cons,List.mem_cons] at hx;rcases hx with rfl|hx
       ·exact sameBits1 _ h.1
       ·exact ih h.2 x hx
    exact key hk
   ·cases hk
  ·split at hk
   ·cases hk
   ·cases sh with
    | nil=>simp [shC] at hk
    | cons h0 sh=>
     simp only [shC,Bool.and_eq_true] at hk;exact sameBits1 _ hk.1
 simp [Instr.keyThatStays,this]
end
/-! a map's entries -/
section
variable {es:Array MapEntry} {clock:Nat} {ks us:List Value}
theorem MapIn.kl (h:MapIn es clock ks us):ks.length=es.size∧us.length=es.size:=by
 rw [←h.ky,←h.vl];simp
theorem MapIn.nil:MapIn #[] 0 [] []:=⟨rfl,rfl,by simp,fun e he=>by simp at he⟩
theorem MapIn.push (h:MapIn es clock ks us) (k v:Value):MapIn (es.push ⟨k,v,clock⟩) (clock + 1) (ks ++ [k]) (us ++ [v]):=by
 refine ⟨by simp [h.ky],by simp [h.vl],?_,fun e he=>?_⟩
 ·rw [Array.toList_push,List.map_append,List.pairwise_append];refine ⟨h.st,by simp,fun a ha b hb=>?_⟩;simp at hb;subst hb
  obtain ⟨e,he,rfl⟩:=List.mem_map.1 ha;exact h.ck e he
 ·simp at he;rcases he with he|rfl
  ·have:=h.ck e (by simpa using he);omega
  ·simp
theorem MapIn.mod (h:MapIn es clock ks us) {n:Nat} {e:MapEntry} (hn:es[n]? = some e) (v:Value) (f:MapEntry→MapEntry) (hf:f e={ e with val:=v }):MapIn (es.modify n f) clock ks (us.set n v):=by
 have hl:(es.modify n f).toList=es.toList.set n { e with val:=v }:=by
  rw [Array.toList_modify];apply List.ext_getElem?;intro i;rw [List.getElem?_modify,List.getElem?_set]
  by_cases hi:n=i
  ·subst hi;have:es.toList[n]? = some e:=by simpa using hn
   have hlt:=(List.getElem?_eq_some_iff.1 this).1;rw [this];simp only [if_true,if_pos hlt];exact congrArg some hf
  ·simp [hi]
 refine ⟨?_,?_,?_,fun x hx=>?_⟩
 ·rw [hl,List.map_set,h.ky];have h1:ks[n]? = some e.key:=by rw [←h.ky];simp [hn]
  apply List.ext_getElem?;intro i;rw [List.getElem?_set];split
  ·rename_i hi;subst hi
   rw [if_pos (List.getElem?_eq_some_iff.1 h1).1,h1]
  ·rfl
 ·rw [hl,List.map_set,h.vl]
 ·rw [hl,List.map_set];have h1:(es.toList.map (·.born))[n]? = some e.born:=by simp [hn]
  have e2:(es.toList.map (·.born)).set n e.born=es.toList.map (·.born):=by
   apply List.ext_getElem?;intro i;rw [List.getElem?_set];split
   ·rename_i hi;subst hi
    rw [if_pos (List.getElem?_eq_some_iff.1 h1).1,h1]
   ·rfl
  rw [e2];exact h.st
 ·rw [hl] at hx;rcases List.mem_or_eq_of_mem_set hx with hx|rfl
  ·exact h.ck x hx
  ·exact h.ck e (by simpa using Array.mem_of_getElem? hn)
theorem MapIn.erase (h:MapIn es clock ks us) (n:Nat):MapIn (es.eraseIdxIfInBounds n) clock (ks.eraseIdx n) (us.eraseIdx n):=by
 have hsub:(es.eraseIdxIfInBounds n).toList=es.toList.eraseIdx n:=by
  unfold Array.eraseIdxIfInBounds;split
  ·simp
  ·rename_i hn
   rw [List.eraseIdx_of_length_le (by simpa using hn)]
 refine ⟨?_,?_,?_,fun x hx=>?_⟩
 ·rw [hsub,←h.ky,Go.ChangeMaps.map_eraseIdx]
 ·rw [hsub,←h.vl,Go.ChangeMaps.map_eraseIdx]
 ·rw [hsub,Go.ChangeMaps.map_eraseIdx];exact h.st.sublist (List.eraseIdx_sublist _ _)
 ·rw [hsub] at hx;exact h.ck x ((List.eraseIdx_sublist _ _).subset hx)
/-- a stamp tells its entry -/
theorem MapIn.born (h:MapIn es clock ks us) {n:Nat} {e:MapEntry} (hn:es[n]? = some e):es.findIdx? (fun x=>(x.born:Int) == (e.born:Int))=some n:=by
 rw [Array.findIdx?_eq_some_iff_getElem];obtain ⟨hlt,he⟩:=Array.getElem?_eq_some_iff.1 hn;refine ⟨hlt,by simp [he],fun j hj=>?_⟩;have:=List.pairwise_iff_getElem.1 h.st j n (by simp;omega) (by simpa using hlt) hj;simp at this;rw [he] at this;simp;omega
end
theorem wrap_lit {x:Int} (h1:-9223372036854775808≤x) (h2:x≤9223372036854775807):IntKind.i64.wrap x=x:=wrap_i64 (by omega) (by omega)
theorem RC.app {w:World} {φ:Fi} {κ:Ka} {R:Nat→Prop}:∀ {l m:List AV} {us vs:List Value},RC w φ κ R l us Ct.z→RC w φ κ R m vs Ct.z→RC w φ κ R (l ++ m) (us ++ vs) Ct.z
 | [],m,us,vs,h,k=>by cases h;exact k
 | a :: l,m,us,vs,h,k=>by
  cases h with
  | cons h1 h2 h3=>
   obtain ⟨rfl,rfl⟩:=Ct.split h3;exact .cons (S:=Ct.z) (T:=Ct.z) h1 (RC.app h2 k) fun _=>rfl
theorem RE.flat {w:World} {φ:Fi} {κ:Ka} {R:Nat→Prop} {k:Nat}:∀ {s:List (List AV)} {us:List Value},RE w φ κ R k s us Ct.z→RC w φ κ R s.flatten us Ct.z∧(∀ u∈us,u.oneCell'=true)∧∀ x∈s.flatten,x.leaf=true
 | [],us,h=>by cases h;exact ⟨.nil,by simp,by simp⟩
 | c :: s,us,h=>by
  cases h with
  | cons h1 h2 h3 h4 h5=>
   obtain ⟨rfl,rfl⟩:=Ct.split h5;obtain ⟨a,b,d⟩:=RE.flat h4;refine ⟨by rw [List.flatten_cons];exact RC.app h1 a,fun u hu=>(List.mem_append.1 hu).elim (h3.1 u) (b u),fun x hx=>?_⟩;rw [List.flatten_cons] at hx;exact (List.mem_append.1 hx).elim (h3.2 x) (d x)
section
variable {X:Cx} {s:AS} {o:Oper} {ops:Array Oper} {rest:List Oper} {Q:Exit→AS→Prop} {Qa:AS→Prop}
/-- a slice of known length, as the address of an array -/
theorem pq_sap {T n e k:Nat} {x:Operand} {i:TI} {rows:List (List AV)} (ho:o.op=.sliceToArrayPointer T x) (hx:aev s x=.sl none k rows) (hT:tt[T]? = some i) (hk:i.kd=.ar n e) (hn:Nat.beq rows.length n=true) (h0:Nat.ble 1 n=true):Pq Tryz.prog X s o (.rp (rows.length * k) [rows.flatten] 0 0):=.of_run fun X φ κ f a w h=>by
 have hn:=Nat.eq_of_beq_eq_true hn;have h0:=Nat.le_of_ble_eq_true h0;have h1:=h.evs hx;generalize hp:a.eval x=p at h1
 cases h1 with
 | ni=>simp at hn;omega
 | ne=>simp at hn;omega
 | ro hre hle hm hR hc=>
  rename_i b o'' c us
  obtain ⟨f1,f2,f3⟩:=RE.flat hre;have hl:=RE.length hre;have:=RV.rp (i:=0) (off:=0) (k:=rows.length * k) (s:=[rows.flatten]) (RE.cons (S:=Ct.z) (T:=Ct.z) f1 hl ⟨f2,f3⟩ .nil fun _=>rfl) (hR (by rintro rfl;simp at hn;omega)) (b:=b) (o:=o'') (us:=us ++ []) (fun j u hj=>hc j u (by simpa using hj));simp only [Nat.zero_mul,Nat.add_zero] at this;refine ⟨_,this,fun w' _=>?_⟩;simp only [execOp,ho,hp];simp [Instr.arrayAt,run_underlying (ty_ar hT hk),go_sem,hn]
theorem AP.SA {T n e k:Nat} {x:Operand} {i:TI} {rows:List (List AV)} {c:List AV} {m:Nat} (K:AP Tryz.prog X ops Q rest (s.put o.dst (.rp m [c] 0 0))) (hg:o.guard=none:=by exact rfl) (ho:o.op=.sliceToArrayPointer T x:=by exact rfl) (hx:aev s x=.sl none k rows:=by exact rfl) (hT:tt[T]? = some i:=by exact rfl) (hk:i.kd=.ar n e:=by exact rfl) (hn:Nat.beq rows.length n=true:=by exact rfl) (h0:Nat.ble 1 n=true:=by exact rfl) (hc:rows.flatten=c:=by (simp only [List.flatten_cons,List.flatten_nil,List.cons_append,List.nil_append,List.append_nil];exact rfl)) (hm:rows.length * k=m:=by (simp only [List.length_cons,List.length_nil,Nat.reduceAdd,Nat.reduceMul];exact rfl)):AP Tryz.prog X ops Q (o :: rest) s:=
 AP.pure hg (hm ▸ hc ▸ pq_sap ho hx hT hk hn h0) K
end
section
variable {X:Cx} {s:AS} {o:Oper} {ops:Array Oper} {rest:List Oper} {Q:Exit→AS→Prop} {av:AV}
/-- a store at a number that is reckoned -/
theorem AP.TB {T T':TypeId} {x y:Operand} {b u off:Nat} {l:List AV} {i:TI} (K:AP Tryz.prog X ops Q rest (AS.put ⟨s.t,s.b.set b ⟨u,.c T' (spl l off av.cells)⟩⟩ o.dst (.tu []))) (hg:o.guard=none:=by exact rfl) (ho:o.op=.store T x y:=by exact rfl) (hx:aev s x=.bp b u off:=by exact rfl) (hs:s.b[b]? = some ⟨u,.c T' l⟩:=by exact rfl) (hy:aev s y=av:=by exact rfl) (hk:av.known=true:=by exact rfl)
 (hT:tt[T]? = some i:=by exact rfl) (hn:av.cells.length=i.size:=by exact rfl) (hl:off + i.size≤l.length:=by first|omega|(simp;omega)):AP Tryz.prog X ops Q (o :: rest) s:=
 ap_store hg ho hx hs hy hk hT hn (by rw [Nat.ble_eq];exact hl) K
/-- a load there -/
theorem AP.LB {T T':TypeId} {x:Operand} {b u off:Nat} {l:List AV} {i:TI} {d:Option Nat} {ty:Nat} {pos:String} {aft:Array Edge} (K:AP Tryz.prog X ops Q rest (s.put d av)) (hx:aev s x=.bp b u off:=by exact rfl) (hs:s.b[b]? = some ⟨u,.c T' l⟩:=by exact rfl) (hT:tt[T]? = some i:=by exact rfl) (hk:rowK i.kd=false:=by exact rfl) (hl:l[off]? = some av:=by assumption):AP Tryz.prog X ops Q (⟨d,.load T x,ty,pos,aft,none⟩ :: rest) s:=
 AP.pure rfl (pq_load1 rfl hx hs hT hk hl) K
end
/-- 32 bytes as cells -/
abbrev tagC (t:List UInt8):List AV:=[U (t.getD 0 0),U (t.getD 1 0),U (t.getD 2 0),U (t.getD 3 0),U (t.getD 4 0),U (t.getD 5 0),U (t.getD 6 0),U (t.getD 7 0),U (t.getD 8 0),U (t.getD 9 0),U (t.getD 10 0),U (t.getD 11 0),U (t.getD 12 0),U (t.getD 13 0),U (t.getD 14 0),U (t.getD 15 0),U (t.getD 16 0),U (t.getD 17 0),U (t.getD 18 0),U (t.getD 19 0),U (t.getD 20 0),U (t.getD 21 0),U (t.getD 22 0),U (t.getD 23 0),U (t.getD 24 0),U (t.getD 25 0),U (t.getD 26 0),U (t.getD 27 0),U (t.getD 28 0),U (t.getD 29 0),U (t.getD 30 0),U (t.getD 31 0)]
abbrev tg (t:List UInt8):AV:=.ag (tagC t)
/-- a list of 32, as one -/
theorem exN:∀ (n:Nat) {x:List UInt8},x.length=n→x=(List.range n).map fun i=>x.getD i 0
 | n,x,h=>by
  refine List.ext_getElem? fun i=>?_
  rw [List.getElem?_map];rcases Nat.lt_or_ge i n with hi|hi
  ·rw [List.getElem?_range hi,List.getElem?_eq_getElem (by omega)];simp [List.getD_eq_getElem?_getD,List.getElem?_eq_getElem (show i < x.length by omega)]
  ·rw [List.getElem?_eq_none (by omega),List.getElem?_eq_none (by simpa using hi)];rfl
theorem ex32 {x:List UInt8} (h:x.length=32):x=[x.getD 0 0,x.getD 1 0,x.getD 2 0,x.getD 3 0,x.getD 4 0,x.getD 5 0,x.getD 6 0,x.getD 7 0,x.getD 8 0,x.getD 9 0,x.getD 10 0,x.getD 11 0,x.getD 12 0,x.getD 13 0,x.getD 14 0,x.getD 15 0,x.getD 16 0,x.getD 17 0,x.getD 18 0,x.getD 19 0,x.getD 20 0,x.getD 21 0,x.getD 22 0,x.getD 23 0,x.getD 24 0,x.getD 25 0,x.getD 26 0,x.getD 27 0,x.getD 28 0,x.getD 29 0,x.getD 30 0,x.getD 31 0]:=exN 32 h
/-- the first ones are there -/
def mixT (l:List UInt8) (i:Nat):List AV:=(List.range 32).map fun j=>U (if j < i then l.getD j 0 else 0)
theorem mixT_len (l:List UInt8) (i:Nat):(mixT l i).length=32:=by simp [mixT]
theorem mixT_set {l:List UInt8} {i:Nat} (h:i < l.length):(mixT l i).set i (U l[i])=mixT l (i + 1):=by
 refine List.ext_getElem? fun j=>?_
 rw [List.getElem?_set];simp only [mixT_len]
 by_cases hj:i=j
 ·subst hj;rw [if_pos rfl]
  by_cases h2:i < 32
  ·rw [if_pos h2];simp [mixT,h2,List.getD_eq_getElem?_getD,h]
  ·rw [if_neg h2,List.getElem?_eq_none (by rw [mixT_len];omega)]
 ·rw [if_neg hj];simp only [mixT,List.getElem?_map];rcases Nat.lt_or_ge j 32 with h2|h2
  ·rw [List.getElem?_range h2];simp only [Option.map_some]
   congr 2
   by_cases h3:j < i
   ·rw [if_pos h3,if_pos (by omega)]
   ·rw [if_neg h3,if_neg (by omega)]
  ·rw [List.getElem?_eq_none (by simpa using h2)];rfl
theorem mixT_32 (l:List UInt8):mixT l 32=tagC l:=rfl
theorem run_boundsA {n l h:Nat} {lo hi:Option Value} (hlo:lo=none∧l=0∨∃ k,lo=some (.int k l)) (hhi:hi=none∧h=n∨∃ k,hi=some (.int k h)) (h1:l≤h) (h2:h≤n) (w:World) :
 (Instr.sliceBounds false n n lo hi none).run Tryz.prog w=.ok (l,h,n) w:=by
 have hb:∀ (k:IntKind) (x y:Nat) (code:BoundsCode),x≤y→(Instr.sliceBound (.int k x) y code).run Tryz.prog w=.ok x w:=by
  intro k x y code hxy;simp [Instr.sliceBound,asIntOf,hxy,go_sem]
 rcases hhi with ⟨rfl,rfl⟩|⟨kh,rfl⟩<;>rcases hlo with ⟨rfl,rfl⟩|⟨kl,rfl⟩
 all_goals (unfold Instr.sliceBounds;simp only [Sem.run_bind,hb _ _ _ _ h1,hb _ _ _ _ h2,Result.andThen_ok,Sem.run_pure];first|rfl|skip)
section
variable {X:Cx} {φ φ':Fi} {κ κ':Ka} {f:Nat→Ct} {L L':Ct} {s s':AS} {a:Act} {w w':World} {o:Oper} {ops:Array Oper} {rest:List Oper} {Q:Exit→AS→Prop} {av:AV} {d:Option Nat} {ty:Nat} {pos:String} {aft:Array Edge}
theorem run_slice_arr {T e N l h g off:Nat} {i ie:TI} {lo hi:Option Value} (hT:tt[T]? = some i) (hk:i.kd=.ar N e) (he:tt[e]? = some ie) (hb:∀ w,(Instr.sliceBounds false N N lo hi none).run Tryz.prog w=.ok (l,h,N) w) (hlN:l=0∨l < N) (w:World) :
 (Instr.sliceAt T (.pointer (some ⟨g,off,none⟩)) lo hi none).run Tryz.prog w=.ok (.slice (some ⟨g,off + l * ie.size,none⟩) (h - l) (N - l)) w:=by
 have hu:=ty_ar hT hk
 have hadd:(if N=l then (⟨g,off,none⟩:Addr) else (⟨g,off,none⟩:Addr).add (l * ie.size))=⟨g,off + l * ie.size,none⟩:=by
  rcases hlN with rfl|hlN
  ·split<;>simp [Addr.add]
  ·rw [if_neg (by omega)];simp only [Addr.add];split<;>simp_all
 simp only [Instr.sliceAt,Sem.run_bind,run_underlying hu,Result.andThen_ok,Instr.sureAddr,Sem.run_pure,hb,ty_size he,hadd]
theorem pq_slice_arr {T e N l h b u off:Nat} {x:Operand} {lo hi:Option Operand} {i ie:TI} (ho:o.op=.slice T x lo hi none) (hx:aev s x=.bp b u off) (hT:tt[T]? = some i) (hk:i.kd=.ar N e) (he:tt[e]? = some ie)
 (hlo:Bd s lo 0 l) (hhi:Bd s hi N h) (h1:l≤h) (h2:h≤N) (hN:N≤1000000) (hlN:l=0∨l < N):Pq Tryz.prog X s o (.sb b u ie.size (off + l * ie.size) (h - l) (N - l)):=.of_run fun X φ κ f a w hs=>by
 have hv:=hs.evs hx;generalize hp:a.eval x=v at hv
 cases hv with
 | @bp _ _ _ g hg=>
  have hb:=fun w=>run_boundsA (n:=N) (l:=l) (h:=h) (lo:=lo.map a.eval) (hi:=hi.map a.eval) (by simpa using Bd.lo (h0:=hs) hlo) (Bd.lo (h0:=hs) hhi) h1 h2 w
  refine ⟨_,.sb hg (by omega) (by unfold maxLen;omega),fun w' _=>?_⟩;have:=run_slice_arr (g:=g) (off:=off) hT hk he hb hlN w';simp only [execOp,ho,hp,Option.map_none,Sem.run_bind,this];rfl
theorem AP.SV {T e N:Nat} {x:Operand} {lo hi:Option Operand} {l h:Int} {b u off:Nat} {i ie:TI} (K:AP Tryz.prog X ops Q rest (s.put d (.sb b u ie.size (off + l.toNat * ie.size) (h.toNat - l.toNat) (N - l.toNat)))) (hx:aev s x=.bp b u off:=by exact rfl) (hT:tt[T]? = some i:=by exact rfl) (hk:i.kd=.ar N e:=by exact rfl) (he:tt[e]? = some ie:=by exact rfl)
 (hl:bdv s 0 lo=some l:=by exact rfl) (hh:bdv s N hi=some h:=by exact rfl) (hp:0≤l∧l≤h∧h≤N∧l < N∧N≤1000000:=by (exact PF0)):AP Tryz.prog X ops Q (⟨d,.slice T x lo hi none,ty,pos,aft,none⟩ :: rest) s:=
 AP.pure rfl (pq_slice_arr rfl hx hT hk he (bd_of (d:=0) hl hp.1) (bd_of hh (by omega)) (by omega) (by omega) hp.2.2.2.2 (.inr (by omega))) K
/-- a variable of one's own becomes what may be read -/
theorem SatW.frzC (h:SatW X φ κ f L s a w) {j u:Nat} {T:TypeId} {l:List AV} (hj:s.b[j]? = some ⟨u,.c T l⟩) :
 ∃ X' g vs,X.le X'∧φ j u=some g∧w.heap[g]? = some (.cells vs.toArray T (0,0))∧X'.R g∧RC w φ κ X'.R l vs Ct.z∧(∀ v∈vs,v.oneCell'=true)∧SatW X' φ κ (updF f j Ct.z) L ⟨s.t,s.b.set j ⟨u,.x⟩⟩ a w:=by
 obtain ⟨hrs,ht⟩:=h.take hj .x fun _ _=>.x
 generalize hF:f j=F at hrs ht
 cases hrs with
 | @c _ _ vs g _ hφ hh hc h1 hS=>
  have hgr:∀ x,F x≠0→x < w.heap.size∧(X.S0 x≠0∨X.w0.heap.size≤x)∧sumF (updF f j Ct.z) (s.b.set j ⟨u,.x⟩).length x + L x=0:=fun x hx=>by
   have h1:=ht.own x (by dsimp only;omega);have h2:=ht.one x;dsimp only at h2;exact ⟨h1.1,h1.2,by omega⟩
  refine ⟨X.gr (fun x=>X.R x∨F x≠0),g,vs,Cx.le_gr (fun x hx=>.inl hx) (fun x hx=>hx.imp id fun h0=>(hgr x h0).2.1),hφ,hh,.inr (by rw [hS];simp),RC.hist (fun _ _ _ h=>h) (fun _ _ _ h=>h) (fun _ h=>.inl h) hc,h1,?_⟩;refine SatW.grow (ht.drop fun x=>by (try dsimp only);omega) (fun x hx=>.inl hx) (fun x hx=>?_) (fun x hx=>hx.imp id fun h0=>(hgr x h0).2.1);rcases hx with hx|hx
  ·have:=ht.rd x hx;dsimp only at this ⊢;exact ⟨this.1,by omega⟩
  ·exact ⟨(hgr x hx).1,(hgr x hx).2.2⟩
theorem RC.ones {R:Nat→Prop}:∀ {l:List AV} {vs:List Value},RC w φ κ R l vs Ct.z→(∀ v∈vs,v.oneCell'=true)→(∀ x∈l,x.leaf=true)→RE w φ κ R 1 (l.map fun a=>[a]) vs Ct.z
 | _,_,.nil,_,_=>.nil
 | _,_,.cons (a:=a) (v:=v) h1 h2 h3,ho,hl=>by
  obtain ⟨rfl,rfl⟩:=Ct.split h3;exact .cons (S:=Ct.z) (T:=Ct.z) (us:=[v]) (.cons (S:=Ct.z) (T:=Ct.z) h1 .nil fun _=>rfl) rfl ⟨fun u hu=>ho u (by simp at hu;simp [hu]),fun x hx=>hl x (by simp at hx;simp [hx])⟩ (RC.ones h2 (fun v hv=>ho v (by simp [hv])) fun x hx=>hl x (by simp [hx])) fun _=>rfl
/-- a whole array, as a slice that may be read; the variable is of no more use -/
theorem AP.SF {T T' e N:Nat} {x:Operand} {b u d':Nat} {i ie:TI} {l:List AV} (K:AP Tryz.prog X ops Q rest ⟨s.t.set d' (.sl none 1 (l.map fun a=>[a])),s.b.set b ⟨u,.x⟩⟩) (hx:aev s x=.bp b u 0:=by exact rfl) (hs:s.b[b]? = some ⟨u,.c T' l⟩:=by exact rfl) (hT:tt[T]? = some i:=by exact rfl) (hk:i.kd=.ar N e:=by exact rfl) (he:tt[e]? = some ie:=by exact rfl)
 (hsz:Nat.beq ie.size 1=true:=by exact rfl) (hl:Nat.beq l.length N=true:=by first|exact rfl|(rw [Nat.beq_eq_true_eq];simp;done)|(rw [Nat.beq_eq_true_eq];simp;omega)) (hN:Nat.ble N 1000000=true:=by exact rfl) (hlf:∀ x∈l,x.leaf=true:=by first|exact List.all_eq_true.1 rfl|(intro x hx;simp at hx;obtain ⟨y,_,rfl⟩:=hx;rfl)):AP Tryz.prog X ops Q (⟨some d',.slice T x none none none,ty,pos,aft,none⟩ :: rest) s:=
 .runG rfl (fun X φ κ f a w h=>by
  have hsz:=Nat.eq_of_beq_eq_true hsz;have hl:=Nat.eq_of_beq_eq_true hl;have hN:=Nat.le_of_ble_eq_true hN;obtain ⟨X1,g,vs,hX1,hφ,hh,hRg,hc,h1,h2⟩:=h.frzC hs;have hv:=h.evs hx;generalize hp:a.eval x=v at hv
  cases hv with
  | bp hg=>
   rw [hφ] at hg;injection hg with hg;subst hg
   have hb:=fun w=>run_boundsA (n:=N) (l:=0) (h:=N) (lo:=none) (hi:=none) (.inl ⟨rfl,rfl⟩) (.inl ⟨rfl,rfl⟩) (Nat.zero_le _) (Nat.le_refl _) w
   have hrun:=run_slice_arr (g:=g) (off:=0) hT hk he hb (.inl rfl) w;have hlen:(l.map fun a=>[a]).length=N:=by simp [hl]
   have hrv:RV w φ κ X1.R (.sl none 1 (l.map fun a=>[a])) (.slice (some ⟨g,0,none⟩) (l.map fun a=>[a]).length N) Ct.z:=.ro (RC.ones hc h1 hlf) (by omega) (by unfold maxLen;omega) (fun _=>hRg) fun j u hj=>by
    rw [cell_of_row w g (0 + j) vs.toArray T' (0,0) hh];simpa using hj
   rw [hlen] at hrv;refine ⟨X1,_,w,φ,κ,_,hX1,?_,h2.puts (some d') hrv⟩;simp only [execOp,hp,Option.map_none,Sem.run_bind,hrun];simp [go_sem]) K
/-- a variable's cells become others -/
theorem SatW.rebox (h:SatW X φ κ f Ct.z s a w) {b u g:Nat} {T':TypeId} {l l':List AV} {vs vs':List Value} (hs:s.b[b]? = some ⟨u,.c T' l⟩) (hφ:φ b u=some g) (hh:w.heap[g]? = some (.cells vs.toArray T' (0,0))) (hrc:RC w φ κ X.R l' vs' Ct.z) (h1:∀ v∈vs',v.oneCell'=true) :
 ∃ f',SatW X φ κ f' Ct.z ⟨s.t,s.b.set b ⟨u,.c T' l'⟩⟩ a (w.setRow g vs'.toArray):=by
 have hS:=h.sl b _ hs;have hb:b < s.b.length:=(List.getElem?_eq_some_iff.1 hs).1
 have hf:∀ x,f b x=if x=g then 1 else 0:=by
  generalize f b=F at hS
  cases hS with
  | c hφ' _ _ _ hSx=>rw [hφ] at hφ';injection hφ' with e;subst e;exact hSx
 have hgl:g < w.heap.size:=(Array.getElem?_eq_some_iff.1 hh).1;refine ⟨updF f b (fun x=>if x=g then 1 else 0),?_⟩;refine h.turn (w':=w.setRow g vs'.toArray) hs (fun _ _ _ h=>h) (fun _ _ _ h=>h) (by simp [World.setRow]) rfl rfl rfl ?_ ?_ (g:=fun x=>if x=g then 1 else 0) (L':=Ct.z) ?_ ?_ (Nat.le_refl _) (fun _ _ _ h=>h) (fun _ _ _ h=>h)
 ·intro x hx h0;have:=hf x;have hne:x≠g:=by rintro rfl;simp at this;omega
  exact setRow_other w g x _ hne
 ·have hR:∀ x,X.R x→(w.setRow g vs'.toArray).heap[x]? = w.heap[x]?:=fun x hx=>by
   have h3:=h.not_rd hx;have h4:=sumF_le f x _ b hb;have h5:=hf x;have hne:x≠g:=by rintro rfl;simp at h5;omega
   exact setRow_other w g x _ hne
  exact .c hφ (setRow_heap w g _ vs'.toArray T' _ hh) (RC.keep hR hrc fun x hx=>absurd rfl hx) h1 fun _=>rfl
 ·intro x hx;have:=hf x;simp only [Ct.z];omega
 ·intro x hx;simp only [Ct.z];split
  ·omega
  ·simp
/-- cells over others -/
def cpy {α:Type} (l:List α) (o:Nat) (r:List α):List α:=l.take o ++ r ++ l.drop (o + r.length)
theorem RC.take_ {R:Nat→Prop} {l:List AV} {us:List Value} (h:RC w φ κ R l us Ct.z) (m:Nat):RC w φ κ R (l.take m) (us.take m) Ct.z:=by simpa using h.drop_ 0 m
theorem RC.dropA {R:Nat→Prop} {l:List AV} {us:List Value} (h:RC w φ κ R l us Ct.z) (n:Nat):RC w φ κ R (l.drop n) (us.drop n) Ct.z:=by
 have:=h.drop_ n l.length
 rwa [List.take_of_length_le (by simp),List.take_of_length_le (by simp [h.length])] at this
theorem RC.cpy {R:Nat→Prop} {l r:List AV} {us vs:List Value} (h:RC w φ κ R l us Ct.z) (k:RC w φ κ R r vs Ct.z) (o:Nat):RC w φ κ R (cpy l o r) (cpy us o vs) Ct.z:=by
 unfold Go.Proofs.YtifebijohmlnbaaGreat.cpy;rw [k.length];exact ((h.take_ o).append k (fun _=>rfl)).append (h.dropA _) (fun _=>rfl)
theorem cpy_one {us vs:List Value} (o:Nat) (h:∀ v∈us,v.oneCell'=true) (k:∀ v∈vs,v.oneCell'=true):∀ v∈cpy us o vs,v.oneCell'=true:=fun v hv=>by
 unfold cpy at hv;rcases List.mem_append.1 hv with hv|hv
 ·rcases List.mem_append.1 hv with hv|hv
  ·exact h v (List.mem_of_mem_take hv)
  ·exact k v hv
 ·exact h v (List.mem_of_mem_drop hv)
/-- copy into a variable's cells -/
theorem ap_copyv {T T1 T' e:Nat} {x y:Operand} {b u off n c:Nat} {l:List AV} {r:List AV} {i ie:TI} {sl:Nat} (hg:o.guard=none) (ho:o.op=.call { callee:=.builtin .copy,args:=#[x,y],argTypes:=#[T,T1] }) (hx:aev s x=.sb b u 1 off n c) (hs:s.b[b]? = some ⟨u,.c T' l⟩) (hT:tt[T]? = some i) (hk:i.kd=.sl e) (he:tt[e]? = some ie) (hsz:ie.size=1)
 (hfit:off + n≤l.length)
 (hsrc:∀ X φ κ f a w,SatW X φ κ f Ct.z s a w→∃ A cs sc,a.eval y=.slice (some A) sl sc∧RC w φ κ X.R r cs Ct.z∧cs.length=min sl n∧(∀ v∈cs,v.oneCell'=true)∧∀ j v,cs[j]? = some v→w.cell? (A.add j)=some v)
 (K:AP Tryz.prog X ops Q rest (AS.put ⟨s.t,s.b.set b ⟨u,.c T' (cpy l off r)⟩⟩ o.dst (.sc (.int .i64 ((min sl n:Nat):Int))))):AP Tryz.prog X ops Q (o :: rest) s:=
 .run hg (fun X φ κ f a w h=>by
  obtain ⟨A,cs,sc,hy,hrc,hr,h1,hcell⟩:=hsrc X φ κ f a w h;have hcl:=hrc.length;have hv:=h.evs hx;have hS:=h.sl b _ hs;generalize hp:a.eval x=v at hv
  cases hv with
  | @sb _ _ _ _ _ _ g hφ hnc _=>
   obtain ⟨vs,hh,hvc,hv1⟩:∃ vs:List Value,w.heap[g]? = some (.cells vs.toArray T' (0,0))∧RC w φ κ X.R l vs Ct.z∧∀ v∈vs,v.oneCell'=true:=by
    generalize f b=F at hS
    cases hS with
    | c hφ' hh hc ho _=>rw [hφ] at hφ';injection hφ' with e;subst e;exact ⟨_,hh,hc,ho⟩
   have hvl:=hvc.length;obtain ⟨dd,j,hd,hj,_,hjs,_⟩:=TI.parts (ty he);have hrun:=run_copy_row (P:=Tryz.prog) w T T1 o.type e g off n c A sl sc vs.toArray T' cs (ty_sl hT hk) (by rw [hj];simp [hjs,hsz]) hh hr hcell (by simp;omega) h1;obtain ⟨f',h2⟩:=h.rebox hs hφ hh (hvc.cpy hrc off) (cpy_one off hv1 h1);have e1:(vs.toArray.toList.take off ++ cs ++ vs.toArray.toList.drop (off + cs.length)).toArray=(cpy vs off cs).toArray:=by simp [cpy]
   rw [e1] at hrun;refine ⟨_,_,φ,κ,f',?_,h2.puts o.dst (av:=.sc (.int .i64 ((min sl n:Nat):Int))) (v:=goInt cs.length) (by rw [hr];exact .sc rfl)⟩;have hm:(#[x,y]:Array Operand).map a.eval=#[.slice (some ⟨g,off,none⟩) n c,.slice (some A) sl sc]:=by simp [hp,hy]
   simp only [execOp,ho,resolve,Sem.run_bind,Sem.run_pure,Result.andThen_ok,invoke,hm]
   show Sem.run Tryz.prog ((do pure (.value (←Builtin.copy_ #[T,T1] o.type #[.slice (some ⟨g,off,none⟩) n c,.slice (some A) sl sc])):Sem Next)) w=_
   simp only [Sem.run_bind,hrun,Result.andThen_ok,Sem.run_pure]) K
theorem RE.flat1 {R:Nat→Prop}:∀ {r:List (List AV)} {us:List Value},RE w φ κ R 1 r us Ct.z→RC w φ κ R r.flatten us Ct.z∧(∀ v∈us,v.oneCell'=true)∧us.length=r.length
 | _,_,.nil=>⟨.nil,(fun _ h=>by cases h),rfl⟩
 | _,_,.cons h1 h2 h3 h4 h5=>by
  obtain ⟨rfl,rfl⟩:=Ct.split h5;obtain ⟨a,b,c⟩:=RE.flat1 h4;exact ⟨by rw [List.flatten_cons];exact h1.append a fun _=>rfl,fun v hv=>(List.mem_append.1 hv).elim (h3.1 v) (b v),by simp [h2,c];omega⟩
theorem RE.take_ {R:Nat→Prop}:∀ {r:List (List AV)} {us:List Value} (m:Nat),RE w φ κ R 1 r us Ct.z→RE w φ κ R 1 (r.take m) (us.take m) Ct.z
 | _,_,0,_=>by simpa using .nil
 | _,_,m + 1,.nil=>.nil
 | _,_,m + 1,.cons (us:=us) (vs:=vs) h1 h2 h3 h4 h5=>by
  obtain ⟨rfl,rfl⟩:=Ct.split h5
  have e:(us ++ vs).take (m + 1)=us ++ vs.take m:=by
   rw [List.take_append,h2,List.take_of_length_le (by omega)];rfl
  rw [e];exact .cons (S:=Ct.z) (T:=Ct.z) h1 h2 h3 (RE.take_ m h4) fun _=>rfl
/-- from a slice that may be read -/
theorem AP.CV {T T1 T' e:Nat} {x y:Operand} {b u off n c:Nat} {l:List AV} {rows:List (List AV)} {i ie:TI} (K:AP Tryz.prog X ops Q rest (AS.put ⟨s.t,s.b.set b ⟨u,.c T' (cpy l off (rows.take (min rows.length n)).flatten)⟩⟩ o.dst (.sc (.int .i64 ((min rows.length n:Nat):Int))))) (hg:o.guard=none:=by exact rfl) (ho:o.op=.call { callee:=.builtin .copy,args:=#[x,y],argTypes:=#[T,T1] }:=by exact rfl)
 (hx:aev s x=.sb b u 1 off n c:=by exact rfl) (hy:aev s y=.sl none 1 rows:=by exact rfl) (hs:s.b[b]? = some ⟨u,.c T' l⟩:=by exact rfl) (hT:tt[T]? = some i:=by exact rfl) (hk:i.kd=.sl e:=by exact rfl) (he:tt[e]? = some ie:=by exact rfl) (hsz:Nat.beq ie.size 1=true:=by exact rfl)
 (hp:off + n≤l.length∧0 < rows.length:=by (exact PF0)):AP Tryz.prog X ops Q (o :: rest) s:=
 ap_copyv hg ho hx hs hT hk he (Nat.eq_of_beq_eq_true hsz) hp.1 (fun X φ κ f a w h=>by
  have h1:=h.evs hy;have hp:=hp;generalize hp':a.eval y=p at h1
  cases h1 with
  | ni=>simp at hp
  | ne=>simp at hp
  | @ro _ _ g o' c' us hre hle hm hR hc=>
   obtain ⟨a1,a2,a3⟩:=RE.flat1 (RE.take_ (min rows.length n) hre);refine ⟨_,_,c',rfl,a1,by rw [a3];simp,a2,fun j v hj=>?_⟩;rw [List.getElem?_take] at hj;split at hj
   ·have:=hc j v hj
    rwa [show (⟨g,o',none⟩:Addr).add j=⟨g,o' + j,none⟩ by unfold Addr.add;split<;>simp_all]
   ·cases hj) K
/-- from cells of the same variable -/
theorem AP.CO {T T1 T' e:Nat} {x y:Operand} {b u off n c off' n' c':Nat} {l:List AV} {i ie:TI} (K:AP Tryz.prog X ops Q rest (AS.put ⟨s.t,s.b.set b ⟨u,.c T' (cpy l off ((l.drop off').take (min n' n)))⟩⟩ o.dst (.sc (.int .i64 ((min n' n:Nat):Int))))) (hg:o.guard=none:=by exact rfl) (ho:o.op=.call { callee:=.builtin .copy,args:=#[x,y],argTypes:=#[T,T1] }:=by exact rfl)
 (hx:aev s x=.sb b u 1 off n c:=by exact rfl) (hy:aev s y=.sb b u 1 off' n' c':=by exact rfl) (hs:s.b[b]? = some ⟨u,.c T' l⟩:=by exact rfl) (hT:tt[T]? = some i:=by exact rfl) (hk:i.kd=.sl e:=by exact rfl) (he:tt[e]? = some ie:=by exact rfl) (hsz:Nat.beq ie.size 1=true:=by exact rfl)
 (hp:off + n≤l.length∧off' + n'≤l.length:=by (exact PF0)):AP Tryz.prog X ops Q (o :: rest) s:=
 ap_copyv (sl:=n') hg ho hx hs hT hk he (Nat.eq_of_beq_eq_true hsz) hp.1 (fun X φ κ f a w h=>by
  have hv:=h.evs hy;have hS:=h.sl b _ hs;generalize hp':a.eval y=p at hv
  cases hv with
  | @sb _ _ _ _ _ _ g hφ hnc _=>
   obtain ⟨vs,hh,hvc,hv1⟩:∃ vs:List Value,w.heap[g]? = some (.cells vs.toArray T' (0,0))∧RC w φ κ X.R l vs Ct.z∧∀ v∈vs,v.oneCell'=true:=by
    generalize f b=F at hS
    cases hS with
    | c hφ' hh hc ho _=>rw [hφ] at hφ';injection hφ' with e;subst e;exact ⟨_,hh,hc,ho⟩
   have hvl:=hvc.length;refine ⟨_,(vs.drop off').take (min n' n),c',rfl,hvc.drop_ off' _,by simp;omega,fun v hv=>hv1 v (List.mem_of_mem_drop (List.mem_of_mem_take hv)),fun j v hj=>?_⟩;rw [List.getElem?_take] at hj;split at hj
   ·rw [List.getElem?_drop] at hj;rw [show (⟨g,off',none⟩:Addr).add j=⟨g,off' + j,none⟩ by unfold Addr.add;split<;>simp_all];rw [cell_of_row w g (off' + j) vs.toArray T' (0,0) hh];simpa using hj
   ·cases hj) K
/-- a part of an array's value -/
theorem run_indexv {T N e:Nat} {i:TI} {k:IntKind} {j:Int} {vs:List Value} {v:Value} (hT:tt[T]? = some i) (hk:i.kd=.ar N e) {ie:TI} (he:tt[e]? = some ie) (hsz:ie.size=1) (hrow:rowK ie.kd=false) (h0:0≤j) (hj:j < N) (hv:vs[j.toNat]? = some v) (w:World):(Instr.index T (.agg vs.toArray) (.int k j)).run Tryz.prog w=.ok v w:=by
 obtain ⟨d,hd,hr,_⟩:=ty_flat he hrow
 have hagg:(isAgg e).run Tryz.prog w=.ok false w:=by
  unfold isAgg;rw [Sem.run_bind,run_underlying hd w]
  cases d<;>first|rfl|(simp [TypeDesc.isRow] at hr;done)
 have hsize:=ty_size he w;simp [Instr.index,asIntOf,Sem.run_bind,run_underlying (ty_ar hT hk),Result.andThen_ok,h0,hj,hsize,hsz,part,hagg,asAgg,hv,go_sem]
theorem AP.IX {T N e:Nat} {x y:Operand} {l:List AV} {k:IntKind} {j:Int} {i ie:TI} (K:AP Tryz.prog X ops Q rest (s.put d av)) (hx:aev s x=.ag l:=by exact rfl) (hy:aev s y=.sc (.int k j):=by exact rfl) (hT:tt[T]? = some i:=by exact rfl) (hk:i.kd=.ar N e:=by exact rfl) (he:tt[e]? = some ie:=by exact rfl) (hsz:Nat.beq ie.size 1=true:=by exact rfl) (hrow:rowK ie.kd=false:=by exact rfl)
 (hl:l[j.toNat]? = some av:=by first|assumption|exact mapAt (by (first|omega|(simp;omega)|(simp;done)|assumption))|exact rfl) (hp:0≤j∧j < N:=by (exact PF0)):AP Tryz.prog X ops Q (⟨d,.index T x y,ty,pos,aft,none⟩ :: rest) s:=
 AP.pure rfl (.of_run fun X φ κ f a w h=>by
  have h1:=h.evs hx;have h2:=h.evc hy;generalize hp':a.eval x=p at h1
  cases h1 with
  | ag hc _=>
   obtain ⟨v,hv,hr⟩:=hc.at_ hl;refine ⟨v,hr,fun w' _=>?_⟩;have:=run_indexv hT hk he (Nat.eq_of_beq_eq_true hsz) hrow hp.1 hp.2 hv (k:=k) w';simp only [execOp,hp',h2,Sem.run_bind,this];simp [go_sem]) K
end
/-! in drawn regions -/
section
variable {s:AS} {ops:Array Oper} {all:List Oper} {K:AS→Prop} {acc:List Fp} {l:List Oper} {av:AV} {op:Op} {ty:Nat} {pos:String} {aft:Array Edge} {g:Option (Nat×Bool)} {d:Nat} {T:List Nat} {F:List Nat} {b2:List Sl} {r:Bool}
theorem DW.RX (hk:DW Tryz.prog ops all K (⟨T,some d,F,false⟩ :: acc) l ⟨s.t.set d av,s.b⟩) (hg:gdS ops s g=some r:=by exact rfl) (hT:opTs ops ⟨some d,op,ty,pos,aft,g⟩=T:=by (simp only [ft,nm,Nat.reduceAdd,Nat.reduceBEq,List.getElem?_cons_zero,List.getElem?_cons_succ];exact rfl)) (hF:ftF 0 s op=F:=by (simp only [ft,nm,Nat.reduceAdd,Nat.reduceBEq,List.getElem?_cons_zero,List.getElem?_cons_succ];exact rfl)) (h:∀ X V,AP Tryz.prog X ops (fun e s'=>e=.normal∧s'=⟨(msT T 0 s.t).set d av,msB F V 0 s.b⟩) [⟨some d,op,ty,pos,aft,g⟩] ⟨msT T 0 s.t,msB F V 0 s.b⟩:=by (intro X V;simp only [ft,nm,Nat.reduceAdd,Nat.reduceBEq];(try (refine AP.Y ?_;dsimp only));(first|refine AP.LB ?_|refine AP.IX ?_|refine AP.SV ?_);(try refine NX ?_);refine AP.nil ?_;first|exact ⟨trivial,rfl⟩|exact ⟨rfl,rfl⟩)) (hy:nyF F 0 s.b=true:=by exact rfl) :
 DW Tryz.prog ops all K acc (⟨some d,op,ty,pos,aft,g⟩ :: l) s:=DW.rd 0 hT hF h hk hy
theorem DW.WX (hk:DW Tryz.prog ops all K (⟨T,some d,F,true⟩ :: acc) l ⟨s.t.set d av,b2⟩) (hg:gdS ops s g=some r:=by exact rfl) (hT:opTs ops ⟨some d,op,ty,pos,aft,g⟩=T:=by (simp only [ft,nm,Nat.reduceAdd,Nat.reduceBEq,List.getElem?_cons_zero,List.getElem?_cons_succ];exact rfl)) (hF:ftF 1 s op=F:=by (simp only [ft,nm,Nat.reduceAdd,Nat.reduceBEq,List.getElem?_cons_zero,List.getElem?_cons_succ];exact rfl)) (h:∀ X V,AP Tryz.prog X ops (fun e s'=>e=.normal∧s'.t=(msT T 0 s.t).set d av∧Mg F V 0 s.b s'.b b2) [⟨some d,op,ty,pos,aft,g⟩] ⟨msT T 0 s.t,msB F V 0 s.b⟩:=by (intro X V;simp only [ft,nm,Nat.reduceAdd,Nat.reduceBEq];(try (refine AP.Y ?_;dsimp only));(first|refine AP.SF ?_|refine AP.CV ?_|refine AP.CO ?_);(try refine NX ?_);refine AP.nil ?_;(first|refine ⟨trivial,rfl,?_⟩|refine ⟨rfl,rfl,?_⟩);(repeat' (first|exact Mg.nil|apply Mg.keep rfl|apply Mg.take rfl));all_goals fail))
 (hb:(∃ V:Nat→Nat,∃ b1,Mg F V 0 s.b b1 b2):=by (refine Exists.intro (fun _=>0) ?_;apply Exists.intro;(repeat' (first|exact Mg.nil|apply Mg.keep rfl|apply Mg.take rfl));all_goals fail)) (hy:nyF F 0 s.b=true:=by exact rfl) (hy2:nyF F 0 b2=true:=by exact rfl):DW Tryz.prog ops all K acc (⟨some d,op,ty,pos,aft,g⟩ :: l) s:=DW.st 1 hT hF h hb hk hy hy2
theorem DW.WX' (hk:DW Tryz.prog ops all K (⟨T,none,F,true⟩ :: acc) l ⟨s.t,b2⟩) (hg:gdS ops s g=some r:=by exact rfl) (hT:opTs ops ⟨none,op,ty,pos,aft,g⟩=T:=by (simp only [ft,nm,Nat.reduceAdd,Nat.reduceBEq,List.getElem?_cons_zero,List.getElem?_cons_succ];exact rfl)) (hF:ftF 1 s op=F:=by (simp only [ft,nm,Nat.reduceAdd,Nat.reduceBEq,List.getElem?_cons_zero,List.getElem?_cons_succ];exact rfl)) (h:∀ X V,AP Tryz.prog X ops (fun e s'=>e=.normal∧s'.t=msT T 0 s.t∧Mg F V 0 s.b s'.b b2) [⟨none,op,ty,pos,aft,g⟩] ⟨msT T 0 s.t,msB F V 0 s.b⟩:=by (intro X V;simp only [ft,nm,Nat.reduceAdd,Nat.reduceBEq];(try (refine AP.Y ?_;dsimp only));(first|refine AP.TB ?_);(try refine NX ?_);refine AP.nil ?_;(first|refine ⟨trivial,rfl,?_⟩|refine ⟨rfl,rfl,?_⟩);(repeat' (first|exact Mg.nil|apply Mg.keep rfl|apply Mg.take rfl));all_goals fail))
 (hb:(∃ V:Nat→Nat,∃ b1,Mg F V 0 s.b b1 b2):=by (refine Exists.intro (fun _=>0) ?_;apply Exists.intro;(repeat' (first|exact Mg.nil|apply Mg.keep rfl|apply Mg.take rfl));all_goals fail)) (hy:nyF F 0 s.b=true:=by exact rfl) (hy2:nyF F 0 b2=true:=by exact rfl):DW Tryz.prog ops all K acc (⟨none,op,ty,pos,aft,g⟩ :: l) s:=DW.stN 1 hT hF h hb hk hy hy2
end
mutual
def fzv (b u k:Nat) (s0:List (List AV)):AV→AV
 | .hd b' u'=>match b' == b && u' == u with
  | true=>.sl none k s0
  | false=>.hd b' u'
 | .ag l=>.ag (fzc b u k s0 l)
 | .sc v=>.sc v
 | .sl o k' s=>.sl o k' s
 | .bp b' u' o=>.bp b' u' o
 | .ep b' u' k' i o=>.ep b' u' k' i o
 | .rp k' s i o=>.rp k' s i o
 | .tu l=>.tu l
 | .gd p a=>.gd p a
 | .fs k' s=>.fs k' s
 | .fn f c=>.fn f c
 | .hf b' u'=>.hf b' u'
 | .sb b' u' k' o n c=>.sb b' u' k' o n c
 | .de=>.de
 | .ob T l=>.ob T l
 | .mo ks s=>.mo ks s
 | .vp b' u' o=>.vp b' u' o
 | .pz l=>.pz l
def fzc (b u k:Nat) (s0:List (List AV)):List AV→List AV
 | []=>[]
 | a :: l=>fzv b u k s0 a :: fzc b u k s0 l
end
mutual
theorem fzv_rel (b u k:Nat) (s0:List (List AV)):∀ a:AV,FzV b u k s0 a (fzv b u k s0 a)
 | .hd b' u'=>by
  unfold fzv;split
  ·rename_i h1
   rw [Bool.and_eq_true] at h1;obtain rfl:=eq_of_beq h1.1;obtain rfl:=eq_of_beq h1.2;exact .hd
  ·exact .same
 | .ag l=>.ag (fzc_rel b u k s0 l)
 | .sc _=>.same
 | .sl _ _ _=>.same
 | .bp _ _ _=>.same
 | .ep _ _ _ _ _=>.same
 | .rp _ _ _ _=>.same
 | .vp _ _ _=>.same
 | .pz _=>.same
 | .tu _=>.same
 | .gd _ _=>.same
 | .fs _ _=>.same
 | .fn _ _=>.same
 | .hf _ _=>.same
 | .sb _ _ _ _ _ _=>.same
 | .de=>.same
 | .ob _ _=>.same
 | .mo _ _=>.same
theorem fzc_rel (b u k:Nat) (s0:List (List AV)):∀ l:List AV,FzC b u k s0 l (fzc b u k s0 l)
 | []=>.nil
 | a :: l=>.cons (fzv_rel b u k s0 a) (fzc_rel b u k s0 l)
end
def fzb (b u k:Nat) (s0:List (List AV)):List Sl→List Sl
 | []=>[]
 | ⟨v,.c T c⟩ :: l=>⟨v,.c T (fzc b u k s0 c)⟩ :: fzb b u k s0 l
 | e :: l=>e :: fzb b u k s0 l
theorem fzb_rel (b u k:Nat) (s0:List (List AV)):∀ l:List Sl,FzB b u k s0 l (fzb b u k s0 l)
 | []=>.nil
 | ⟨v,.c T c⟩ :: l=>.c (fzc_rel b u k s0 c) (fzb_rel b u k s0 l)
 | ⟨v,.r e k' s⟩ :: l=>.same (fzb_rel b u k s0 l)
 | ⟨v,.x⟩ :: l=>.same (fzb_rel b u k s0 l)
 | ⟨v,.o⟩ :: l=>.same (fzb_rel b u k s0 l)
 | ⟨v,.y J⟩ :: l=>.same (fzb_rel b u k s0 l)
 | ⟨v,.f _ _ _ _ _⟩ :: l=>.same (fzb_rel b u k s0 l)
 | ⟨v,.m _ _ _ _⟩ :: l=>.same (fzb_rel b u k s0 l)
/-- array b is given up -/
def fzS (s:AS) (b:Nat):Option AS:=
 match s.b[b]? with
 | some ⟨u,.r _ k rows⟩=>some ⟨fzc b u k (roE rows) s.t,fzb b u k (roE rows) (s.b.set b ⟨u,.x⟩)⟩
 | _=>none
theorem gh_fzS {s s':AS} {b:Nat} (h:fzS s b=some s'):Gh s s':=by
 unfold fzS at h;split at h
 ·rename_i hs
  injection h with h;subst h
  exact gh_fz hs rfl (fzc_rel _ _ _ _ _) (fzb_rel _ _ _ _ _)
 ·cases h
def fzA:AS→List AV→Option AS
 | _,[]=>none
 | s,.hd b _ :: l=>match fzS s b with
  | some s'=>match fzA s' l with
   | some s''=>some s''
   | none=>some s'
  | none=>fzA s l
 | s,_ :: l=>fzA s l
theorem gh_fzA:∀ {l:List AV} {s s':AS},fzA s l=some s'→Gh s s'
 | [],_,_,h=>by cases h
 | a :: l,s,s',h=>by
  cases a with
  | hd b u=>
   simp only [fzA] at h;split at h
   ·rename_i s1 h1
    split at h
    ·rename_i s2 h2
     injection h with h;subst h
     exact (gh_fzS h1).trans (gh_fzA h2)
    ·injection h with h;subst h
     exact gh_fzS h1
   ·exact gh_fzA h
  | _=>exact gh_fzA (l:=l) h
theorem AP.PF {P:Program} {X:Cx} {s s1:AS} {ops:Array Oper} {rest:List Oper} {o:Oper} {Q:Exit→AS→Prop} {fo:Operand} {xs:Array Operand} {tys:Array TypeId} (K:AP P X ops Q (o :: rest) s1) (ho:o.op=.call { callee:=.value fo,args:=xs,argTypes:=tys }:=by exact rfl) (h:fzA s (xs.toList.map (aev s))=some s1:=by exact rfl):AP P X ops Q (o :: rest) s:=AP.gh (gh_fzA h) K
theorem fq:type_of% (And.intro @fzc.eq_1 (And.intro @fzc.eq_2 (And.intro @fzv.eq_1 (And.intro @fzv.eq_2 (And.intro @fzv.eq_3 (And.intro @fzv.eq_4 (And.intro @fzv.eq_5 (And.intro @fzv.eq_6 (And.intro @fzv.eq_7 (And.intro @fzv.eq_8 (And.intro @fzv.eq_9 (And.intro @fzv.eq_10 (And.intro @fzv.eq_11 (And.intro @fzv.eq_12 (And.intro @fzv.eq_13 (And.intro @fzv.eq_14 (And.intro @fzb.eq_1 (And.intro @fzb.eq_2 @fzb.eq_3)))))))))))))))))):=(And.intro @fzc.eq_1 (And.intro @fzc.eq_2 (And.intro @fzv.eq_1 (And.intro @fzv.eq_2 (And.intro @fzv.eq_3 (And.intro @fzv.eq_4 (And.intro @fzv.eq_5 (And.intro @fzv.eq_6 (And.intro @fzv.eq_7 (And.intro @fzv.eq_8 (And.intro @fzv.eq_9 (And.intro @fzv.eq_10 (And.intro @fzv.eq_11 (And.intro @fzv.eq_12 (And.intro @fzv.eq_13 (And.intro @fzv.eq_14 (And.intro @fzb.eq_1 (And.intro @fzb.eq_2 @fzb.eq_3))))))))))))))))))
section
variable {X:Cx} {φ φ':Fi} {κ κ':Ka} {f:Nat→Ct} {L L':Ct} {s s':AS} {a:Act} {w w':World} {R:Nat→Prop}
/-- a row is laid open -/
theorem SatW.openR (h:SatW X φ κ f L s a w) {j u k n:Nat} {e:TypeId} {rows:List (List AV)} {c c':List AV} {b2:List Sl} (hj:s.b[j]? = some ⟨u,.r e k rows⟩) (hc:rows[n]? = some c) (hop:opnC c (s.b.set j ⟨u,.o⟩)=(c',b2)) (hk:b2[j]? = some ⟨u,.o⟩) :
 ∃ φ' κ' f',(∀ b u g,φ b u=some g→φ' b u=some g)∧(∀ b u v,κ b u=some v→κ' b u=some v)∧SatW X φ' κ' f' L ⟨s.t,b2.set j ⟨u,.f e k rows n c'⟩⟩ a w:=by
 obtain ⟨hrs,ht⟩:=h.take hj .o fun _ _=>.o
 generalize hF:f j=F at hrs ht
 cases hrs with
 | r hκ hv=>
  cases hv with
  | ni=>simp at hc
  | ne=>simp at hc
  | @om _ _ _ g cap cur us S _ he hmk hle hm hsz htk hS=>
   obtain ⟨us1,cs,us2,S1,Sc,S2,e1,e2,e3,e4,e5,e6,e7,e8⟩:=RE.part he hc;obtain ⟨φ1,κ1,f1,p1,p2,p3,p4⟩:=SatW.opnC_ (L':=fun x=>((if x=g then 1 else 0) + (S1 x + S2 x)) + L x) ht e2 (fun x=>by (try dsimp only);rw [hS,e8];omega) fun x hx=>leaf_fl (e5 x hx)
   simp only [hop] at p3 p4
   have hz:∀ x,f1 j x=0:=fun x=>by
    have:=p4.sl j _ hk;generalize f1 j=F at this
    cases this;rfl
   refine ⟨φ1,κ1,_,p1,p2,p4.turn (w':=w) (B:=.f e k rows n c') (u:=u) (g:=fun x=>(if x=g then 1 else 0) + (S1 x + S2 x)) (L':=L) hk (fun _ _ _ h=>h) (fun _ _ _ h=>h) (Nat.le_refl _) rfl rfl rfl (fun _ _ _=>rfl) ?_ (fun x _=>by (try dsimp only);rw [hz x];omega) (fun x hx=>?_) (Nat.le_refl _) (fun _ _ _ h=>h) (fun _ _ _ h=>h)⟩
   ·exact .f (p2 _ _ _ hκ) (.yes (List.getElem?_eq_some_iff.1 hc).1 (RE.hist p1 p2 (fun _ h=>h) e1) p3 e3 e4 (RE.hist p1 p2 (fun _ h=>h) e6) e7 fun _=>rfl) hmk hle hm hsz htk fun _=>rfl
   ·have h7:=p4.one x;have h8:=p4.own x;dsimp only at h7 h8;exact ⟨by omega,fun h0=>(h8 (by omega)).1⟩
theorem SatW.openM (h:SatW X φ κ f L s a w) {j u n:Nat} {ks:List Value} {rows:List (List AV)} {c c':List AV} {b2:List Sl} (hj:s.b[j]? = some ⟨u,.m ks rows none none⟩) (hc:rows[n]? = some c) (hop:opnC c (s.b.set j ⟨u,.o⟩)=(c',b2)) (hk:b2[j]? = some ⟨u,.o⟩) :
 ∃ φ' κ' f',(∀ b u g,φ b u=some g→φ' b u=some g)∧(∀ b u v,κ b u=some v→κ' b u=some v)∧SatW X φ' κ' f' L ⟨s.t,b2.set j ⟨u,.m ks rows (some (n,c')) none⟩⟩ a w:=by
 obtain ⟨hrs,ht⟩:=h.take hj .o fun _ _=>.o
 generalize hF:f j=F at hrs ht
 cases hrs with
 | @m _ _ _ _ g es clock us S' _ hκ hro hh hmi hst hS=>
  cases hro with
  | no he=>
   obtain ⟨us1,cs,us2,S1,Sc,S2,e1,e2,e3,e4,e5,e6,e7,e8⟩:=RE.part he hc;obtain ⟨φ1,κ1,f1,p1,p2,p3,p4⟩:=SatW.opnC_ (L':=fun x=>((if x=g then 1 else 0) + (S1 x + S2 x)) + L x) ht e2 (fun x=>by (try dsimp only);rw [hS,e8];omega) fun x hx=>leaf_fl (e5 x hx)
   simp only [hop] at p3 p4
   have hz:∀ x,f1 j x=0:=fun x=>by
    have:=p4.sl j _ hk;generalize f1 j=F at this
    cases this;rfl
   refine ⟨φ1,κ1,_,p1,p2,p4.turn (w':=w) (B:=.m ks rows (some (n,c')) none) (u:=u) (g:=fun x=>(if x=g then 1 else 0) + (S1 x + S2 x)) (L':=L) hk (fun _ _ _ h=>h) (fun _ _ _ h=>h) (Nat.le_refl _) rfl rfl rfl (fun _ _ _=>rfl) ?_ (fun x _=>by (try dsimp only);rw [hz x];omega) (fun x hx=>?_) (Nat.le_refl _) (fun _ _ _ h=>h) (fun _ _ _ h=>h)⟩
   ·exact .m (p2 _ _ _ hκ) (.yes (List.getElem?_eq_some_iff.1 hc).1 (RE.hist p1 p2 (fun _ h=>h) e1) p3 e3 e4 (RE.hist p1 p2 (fun _ h=>h) e6) e7 fun _=>rfl) hh hmi trivial fun _=>rfl
   ·have h7:=p4.one x;have h8:=p4.own x;dsimp only at h7 h8;exact ⟨by omega,fun h0=>(h8 (by omega)).1⟩
end
/-- shut, by a function: what is owned goes back as owned -/
def clsO:Nat→List Sl→List AV→Option (List AV×List Sl)
 | 0,_,_=>none
 | _ + 1,b,[]=>some ([],b)
 | n + 1,b,a :: l=>
  match a with
  | .hd i u=>match b[i]? with
   | some ⟨v,.r e k r⟩=>match Nat.beq v u,clsO n (b.set i ⟨v,.x⟩) l with
    | true,some (l',b')=>some (.sl (some e) k r :: l',b')
    | _,_=>none
   | some ⟨v,.m ks r none _⟩=>match Nat.beq v u,clsO n (b.set i ⟨v,.x⟩) l with
    | true,some (l',b')=>some (.mo ks r :: l',b')
    | _,_=>none
   | some ⟨v,.m ks r (some (m,c)) _⟩=>match Nat.beq v u,clsO n (b.set i ⟨v,.x⟩) c with
    | true,some (c',b1)=>match clsO n b1 l with
     | some (l',b')=>some (.mo ks (r.set m c') :: l',b')
     | none=>none
    | _,_=>none
   | some ⟨v,.f e k r m c⟩=>match Nat.beq v u,clsO n (b.set i ⟨v,.x⟩) c with
    | true,some (c',b1)=>match clsO n b1 l with
     | some (l',b')=>some (.sl (some e) k (r.set m c') :: l',b')
     | none=>none
    | _,_=>none
   | _=>none
  | .bp i u 0=>match b[i]? with
   | some ⟨v,.c T c⟩=>match Nat.beq v u,clsO n (b.set i ⟨v,.x⟩) c with
    | true,some (c',b1)=>match clsO n b1 l with
     | some (l',b')=>some (.ob T c' :: l',b')
     | none=>none
    | _,_=>none
   | _=>none
  | .fn f c=>match c,clsO n b l with
   | [],some (l',b')=>some (.sc (.func (.func f) #[] #[]) :: l',b')
   | _,_=>none
  | .sc v=>match clsO n b l with
   | some (l',b')=>some (.sc v :: l',b')
   | none=>none
  | .sl o k r=>match clsO n b l with
   | some (l',b')=>some (.sl o k r :: l',b')
   | none=>none
  | .ob T c=>match clsO n b l with
   | some (l',b')=>some (.ob T c :: l',b')
   | none=>none
  | .mo ks r=>match clsO n b l with
   | some (l',b')=>some (.mo ks r :: l',b')
   | none=>none
  | _=>none
theorem clsO_of:∀ {n:Nat} {b:List Sl} {l l':List AV} {b':List Sl},clsO n b l=some (l',b')→ClsC b l l' b'
 | 0,b,l,l',b',h=>by simp [clsO] at h
 | n + 1,b,[],l',b',h=>by simp only [clsO,Option.some.injEq,Prod.mk.injEq] at h;obtain ⟨rfl,rfl⟩:=h;exact .nil
 | n + 1,b,a :: l,l',b',h=>by
  unfold clsO at h;split at h
  ·split at h<;>try cases h
   ·rename_i hb
    split at h<;>try cases h
    rename_i hv hc
    have:=Nat.eq_of_beq_eq_true hv;subst this
    exact .hd hb (clsO_of hc)
   ·rename_i hb
    split at h<;>try cases h
    rename_i hv hc
    have:=Nat.eq_of_beq_eq_true hv;subst this
    exact .mo hb (clsO_of hc)
   ·rename_i hb
    split at h<;>try cases h
    rename_i hv hc
    have:=Nat.eq_of_beq_eq_true hv;subst this
    split at h<;>try cases h
    rename_i hd
    exact .mp hb (clsO_of hc) (clsO_of hd)
   ·rename_i hb
    split at h<;>try cases h
    rename_i hv hc
    have:=Nat.eq_of_beq_eq_true hv;subst this
    split at h<;>try cases h
    rename_i hd
    exact .hp hb (clsO_of hc) (clsO_of hd)
  ·split at h<;>try cases h
   rename_i hb
   split at h<;>try cases h
   rename_i hv hc
   have:=Nat.eq_of_beq_eq_true hv;subst this
   split at h<;>try cases h
   rename_i hd
   exact .ob hb (clsO_of hc) (clsO_of hd)
  ·split at h<;>try cases h
   rename_i hc
   exact .fn (clsO_of hc)
  ·split at h<;>try cases h
   rename_i hc
   exact .leaf rfl (clsO_of hc)
  ·split at h<;>try cases h
   rename_i hc
   exact .leaf rfl (clsO_of hc)
  ·split at h<;>try cases h
   rename_i hc
   exact .leaf rfl (clsO_of hc)
  ·split at h<;>try cases h
   rename_i hc
   exact .leaf rfl (clsO_of hc)
  ·cases h
section
variable {s s':AS}
theorem gh_open {j u k n:Nat} {e:TypeId} {rows:List (List AV)} {c c':List AV} {b2:List Sl} (hj:s.b[j]? = some ⟨u,.r e k rows⟩) (hc:rows[n]? = some c) (hop:opnC c (s.b.set j ⟨u,.o⟩)=(c',b2)) (hk:b2[j]? = some ⟨u,.o⟩):Gh s ⟨s.t,b2.set j ⟨u,.f e k rows n c'⟩⟩:=by
 rintro X a w ⟨X',φ,κ,f,hX,h⟩;obtain ⟨φ',κ',f',_,_,h1⟩:=h.openR hj hc hop hk;exact ⟨X',φ',κ',f',hX,h1⟩
theorem gh_openM {j u n:Nat} {ks:List Value} {rows:List (List AV)} {c c':List AV} {b2:List Sl} (hj:s.b[j]? = some ⟨u,.m ks rows none none⟩) (hc:rows[n]? = some c) (hop:opnC c (s.b.set j ⟨u,.o⟩)=(c',b2)) (hk:b2[j]? = some ⟨u,.o⟩):Gh s ⟨s.t,b2.set j ⟨u,.m ks rows (some (n,c')) none⟩⟩:=by
 rintro X a w ⟨X',φ,κ,f,hX,h⟩;obtain ⟨φ',κ',f',_,_,h1⟩:=h.openM hj hc hop hk;exact ⟨X',φ',κ',f',hX,h1⟩
end
theorem ty_mp {T K E:Nat} {i:TI} (hT:tt[T]? = some i) (hk:i.kd=.mp K E):Tryz.prog.underlying T=some (.map K E):=by
 obtain ⟨d,j,hd,_,h1,_⟩:=TI.parts (ty hT);rw [hk] at h1
 cases d with
 | map k v=>
  simp only [Kd.is,Bool.and_eq_true,beq_iff_eq] at h1;obtain ⟨rfl,rfl⟩:=h1;exact hd
 | _=>simp [Kd.is] at h1
/-- a key's value -/
def kvl:AV→Option Value
 | .sc v=>some v
 | .ag l=>match scs l with
  | some vs=>some (.agg vs.toArray)
  | none=>none
 | _=>none
/-- the cell of a row, also of the one that lies open -/
def rowAt (rows:List (List AV)):Option (Nat×List AV)→Nat→Option AV
 | some (m,c),n=>match Nat.beq m n with
  | true=>c[0]?
  | false=>match rows[n]? with
   | some r=>match r[0]? with
    | some a=>some a.cp
    | none=>none
   | none=>none
 | none,n=>match rows[n]? with
  | some r=>match r[0]? with
   | some a=>some a.cp
   | none=>none
  | none=>none
/-- what a look-up tells -/
def lkV (ok:Bool) (av:AV) (is:Bool):AV:=match ok with
 | true=>.tu [av,.sc (.bool is)]
 | false=>av
/-- what may lie in a row as it is -/
def AV.pl:AV→Bool
 | .sc _ | .sl none _ _=>true
 | _=>false
def AV.nag:AV→Bool
 | .ag _=>false
 | _=>true
def oRow (n:Nat) (av:AV):Option (Nat×List AV):=match av.pl with
 | true=>none
 | false=>some (n,[av])
def cRow (av:AV):List AV:=match av.pl with
 | true=>[av]
 | false=>[.de]
section
variable {X:Cx} {φ φ':Fi} {κ κ':Ka} {f:Nat→Ct} {L L':Ct} {s s':AS} {a:Act} {w w':World} {R:Nat→Prop} {o:Oper} {av:AV}
theorem RV.kvl {a:AV} {v kv:Value} {S:Ct} (h:RV w φ κ R a v S) (hk:kvl a=some kv):v=kv:=by
 cases a<;>simp only [Go.Proofs.YtifebijohmlnbaaGreat.kvl] at hk<;>try cases hk
 ·cases h;rfl
 ·split at hk<;>cases hk
  rename_i hs
  cases h with
  | ag hc _=>rw [hc.scs hs]
theorem RE.k1 {rows:List (List AV)} {us:List Value} {S:Ct} (h:RE w φ κ R 1 rows us S) {n:Nat} {r:List AV} {x:AV} (hr:rows[n]? = some r) (hx:r[0]? = some x):∃ v,us[n]? = some v∧RV w φ κ R x.cp v Ct.z:=by
 obtain ⟨cs,T,hc,hl,ho,hat⟩:=RE.at' h hr;obtain ⟨v,hv,hrv⟩:=hc.at' ho.2 hx;exact ⟨v,by simpa using hat 0 v hv,hrv⟩
theorem RO.at_ {rows:List (List AV)} {op:Option (Nat×List AV)} {us:List Value} {S:Ct} (h:RO w φ κ R 1 rows op us S) {n:Nat} (hn:rowAt rows op n=some av):∃ v,us[n]? = some v∧RV w φ κ R av v Ct.z:=by
 cases h with
 | no he=>
  simp only [rowAt] at hn;split at hn<;>try cases hn
  rename_i hr
  split at hn<;>cases hn
  rename_i hx
  exact he.k1 hr hx
 | @yes m c us1 cs us2 _ S1 S2 _ hm e1 e2 e3 e4 e6 e7 e8=>
  have l1:=e1.length;rw [List.length_take,Nat.mul_one,Nat.min_eq_left (Nat.le_of_lt hm)] at l1;simp only [rowAt] at hn;split at hn
  ·rename_i hb
   have:=Nat.eq_of_beq_eq_true hb;subst this
   obtain ⟨v,hv,hr⟩:=e2.at_ hn;refine ⟨v,?_,hr⟩;rw [e7,List.append_assoc,List.getElem?_append_right (by omega),l1,Nat.sub_self];rw [List.getElem?_append_left (by omega)];exact hv
  ·rename_i hb
   have hne:m≠n:=by intro h;subst h;simp at hb
   split at hn<;>try cases hn
   rename_i r hr
   split at hn<;>cases hn
   rename_i hx
   rcases Nat.lt_or_gt_of_ne hne with hlt|hlt
   ·have:(rows.drop (m + 1))[n - (m + 1)]? = some r:=by rw [List.getElem?_drop,show m + 1 + (n - (m + 1))=n by omega];exact hr
    obtain ⟨v,hv,hrv⟩:=e6.k1 this hx;refine ⟨v,?_,hrv⟩;rw [e7,List.getElem?_append_right (by simp;omega)];rw [show n - (us1 ++ cs).length=n - (m + 1) by simp;omega];exact hv
   ·have:(rows.take m)[n]? = some r:=by rw [List.getElem?_take,if_pos hlt];exact hr
    obtain ⟨v,hv,hrv⟩:=e1.k1 this hx;refine ⟨v,?_,hrv⟩;rw [e7,List.append_assoc,List.getElem?_append_left (by omega)];exact hv
theorem RO.len {rows:List (List AV)} {op:Option (Nat×List AV)} {us:List Value} {S:Ct} {k:Nat} (h:RO w φ κ R k rows op us S):us.length=rows.length * k:=by
 cases h with
 | no he=>exact he.length
 | @yes m c us1 cs us2 _ S1 S2 _ hm e1 e2 e3 e4 e6 e7 e8=>
  have l1:=e1.length;have l2:=e6.length;rw [e7];simp only [List.length_append,l1,l2,e3,List.length_take,List.length_drop];rw [Nat.min_eq_left (Nat.le_of_lt hm)];have:rows.length=m + (1 + (rows.length - (m + 1))):=by omega
  conv=>rhs;rw [this]
  rw [Nat.add_mul,Nat.add_mul];omega
/-- what a map's number stands for -/
theorem SatW.map_ (h:SatW X φ κ f L s a w) {x:Operand} {j u:Nat} {ks:List Value} {rows:List (List AV)} {op:Option (Nat×List AV)} {st:Option (Nat×Nat×Nat)} (hx:aev s x=.hd j u) (hs:s.b[j]? = some ⟨u,.m ks rows op st⟩) :
 ∃ g es clock us S,a.eval x=.map (some g)∧w.heap[g]? = some (.map es clock)∧MapIn es clock ks us∧RO w φ κ X.R 1 rows op us S∧StIn κ es st∧κ j u=some (.map (some g))∧∀ y,f j y=(if y=g then 1 else 0) + S y:=by
 have h1:=h.evs hx;have h2:=h.sl j _ hs;generalize a.eval x=p at h1;generalize f j=F at h2
 cases h1 with
 | hd hκ _=>
  cases h2 with
  | @m _ _ _ _ g es clock us S _ hκ' hro hh hm hst hS=>
   rw [hκ] at hκ';injection hκ' with e;subst e
   exact ⟨g,es,clock,us,S,rfl,hh,hm,hro,hst,hκ,hS⟩
theorem MapIn.keys {es:Array MapEntry} {clock:Nat} {ks us:List Value} (h:MapIn es clock ks us) {P:Program} {K:TypeId} {sh:List Sh} (hk:∀ k∈ks,isKey P K sh k=true):∀ e∈es.toList,isKey P K sh e.key=true:=fun e he=>hk _ (by rw [←h.ky];exact List.mem_map.2 ⟨e,he,rfl⟩)
theorem MapIn.at_ {es:Array MapEntry} {clock:Nat} {ks us:List Value} (h:MapIn es clock ks us) {n:Nat} {k v:Value} (hk:ks[n]? = some k) (hv:us[n]? = some v):∃ e,es[n]? = some e∧e.key=k∧e.val=v:=by
 rw [←h.ky,List.getElem?_map,Option.map_eq_some_iff] at hk;obtain ⟨e,he,rfl⟩:=hk;rw [←h.vl,List.getElem?_map,he] at hv;simp at hv;exact ⟨e,by simpa using he,rfl,hv⟩
theorem run_zero1 {E:Nat} {ie:TI} {c:ZC} (hE:tt[E]? = some ie) (hz:ie.zero=some [c]) (hr:rowK ie.kd=false) (w:World):(zeroValue E).run Tryz.prog w=.ok c.val w:=by
 obtain ⟨d,j,hd,hj,h1,_,_,hzz⟩:=TI.parts (ty hE);obtain ⟨v,hv,hvc,_,hag,htu⟩:=hzz _ hz
 have:v=c.val:=by
  have hna:¬ ∃ c,v=.agg c:=by
   rw [hag]
   cases hk:ie.kd<;>rw [hk] at h1 hr<;>simp [rowK] at hr<;>cases d<;>simp [Kd.is] at h1 ⊢
  have:v.cells.toList=[v]:=by
   cases v<;>first|rfl|(exact absurd ⟨_,rfl⟩ hna)|(exact absurd rfl (htu _))
  rw [this] at hvc
  simpa using hvc
 subst this;simp [zeroValue,typeInfo,hj,hv,go_sem]
/-- looked up, found -/
theorem pq_look {T K E n:Nat} {x y:Operand} {ok:Bool} {j u:Nat} {ks:List Value} {rows:List (List AV)} {op:Option (Nat×List AV)} {st:Option (Nat×Nat×Nat)} {kv:Value} {i:TI} {sh:List Sh}
 (ho:o.op=.lookup T x y ok) (hx:aev s x=.hd j u) (hs:s.b[j]? = some ⟨u,.m ks rows op st⟩) (hy:kvl (aev s y)=some kv) (hT:tt[T]? = some i) (hk:i.kd=.mp K E) (hf:flatT Tryz.prog 9 K=some sh) (hkv:isKey Tryz.prog K sh kv=true) (hks:∀ k∈ks,isKey Tryz.prog K sh k=true)
 (hn:fnd kv ks=some n) (hr:rowAt rows op n=some av):Pq Tryz.prog X s o (lkV ok av true):=.of_run fun X φ κ f a w h=>by
 obtain ⟨g,es,clock,us,S,he,hh,hm,hro,_,_,hS⟩:=h.map_ hx hs;have hyv:=(h.ev y).kvl hy;obtain ⟨v,hv,hrv⟩:=hro.at_ hr;obtain ⟨k',hk',hkq⟩:=fnd_at hn;obtain ⟨e,hen,hek,hev⟩:=hm.at_ hk' hv
 have hfE:fndE kv es.toList=some (n,v):=by
  simp only [fndE,hm.ky,hn];simp [hen,hev]
 have hjl:j < s.b.length:=(List.getElem?_eq_some_iff.1 hs).1
 have hrun:∀ w',Below w.heap.size w w'→(execOp a.eval o).run Tryz.prog w'=.ok (.value (if ok then .tuple #[v,.bool true] else v)) w':=fun w' hb=>by
  have hgl:g < w.heap.size:=(Array.getElem?_eq_some_iff.1 hh).1;have hh':w'.heap[g]? = some (.map es clock):=(hb.block g hgl).trans hh;have e1:=run_findKey_flat (w:=w') (es:=es.toList) hf hkv (hm.keys hks)
  have e2:(Instr.lookup T (.map (some g)) kv ok).run Tryz.prog w'=.ok (if ok then .tuple #[v,.bool true] else v) w':=by
   simp [Instr.lookup,run_underlying (ty_mp hT hk),MapKept.run_getObj_map hh',run_check es.isEmpty hf hkv,e1,hfE,Result.andThen]
  simp only [execOp,ho,he,hyv,Sem.run_bind,e2];rfl
 cases ok with
 | true=>exact ⟨_,.tu (.cons (S:=Ct.z) (T:=Ct.z) hrv (.cons (S:=Ct.z) (T:=Ct.z) (.sc rfl) .nil fun _=>rfl) fun _=>rfl),fun w' hb=>by simpa using hrun w' hb⟩
 | false=>exact ⟨_,hrv,fun w' hb=>by simpa using hrun w' hb⟩
/-- looked up, not there -/
theorem pq_lookN {T K E:Nat} {x y:Operand} {ok:Bool} {j u:Nat} {ks:List Value} {rows:List (List AV)} {op:Option (Nat×List AV)} {st:Option (Nat×Nat×Nat)} {kv:Value} {i ie:TI} {sh:List Sh} {c:ZC}
 (ho:o.op=.lookup T x y ok) (hx:aev s x=.hd j u) (hs:s.b[j]? = some ⟨u,.m ks rows op st⟩) (hy:kvl (aev s y)=some kv) (hT:tt[T]? = some i) (hk:i.kd=.mp K E) (hE:tt[E]? = some ie) (hz:ie.zero=some [c]) (hrk:rowK ie.kd=false) (hf:flatT Tryz.prog 9 K=some sh) (hkv:isKey Tryz.prog K sh kv=true) (hks:∀ k∈ks,isKey Tryz.prog K sh k=true)
 (hn:fnd kv ks=none):Pq Tryz.prog X s o (lkV ok (.sc c.val) false):=.of_run fun X φ κ f a w h=>by
 obtain ⟨g,es,clock,us,S,he,hh,hm,hro,_,_,hS⟩:=h.map_ hx hs;have hyv:=(h.ev y).kvl hy;have hfE:fndE kv es.toList=none:=by simp only [fndE,hm.ky,hn]
 have hone:c.val.oneCell'=true:=by cases c<;>rfl
 have hrun:∀ w',Below w.heap.size w w'→(execOp a.eval o).run Tryz.prog w'=.ok (.value (if ok then .tuple #[c.val,.bool false] else c.val)) w':=fun w' hb=>by
  have hgl:g < w.heap.size:=(Array.getElem?_eq_some_iff.1 hh).1;have hh':w'.heap[g]? = some (.map es clock):=(hb.block g hgl).trans hh;have e1:=run_findKey_flat (w:=w') (es:=es.toList) hf hkv (hm.keys hks)
  have e2:(Instr.lookup T (.map (some g)) kv ok).run Tryz.prog w'=.ok (if ok then .tuple #[c.val,.bool false] else c.val) w':=by
   simp [Instr.lookup,run_underlying (ty_mp hT hk),MapKept.run_getObj_map hh',run_check es.isEmpty hf hkv,e1,hfE,run_zero1 hE hz hrk,Result.andThen]
  simp only [execOp,ho,he,hyv,Sem.run_bind,e2];rfl
 cases ok with
 | true=>exact ⟨_,.tu (.cons (S:=Ct.z) (T:=Ct.z) (.sc hone) (.cons (S:=Ct.z) (T:=Ct.z) (.sc rfl) .nil fun _=>rfl) fun _=>rfl),fun w' hb=>by simpa using hrun w' hb⟩
 | false=>exact ⟨_,.sc hone,fun w' hb=>by simpa using hrun w' hb⟩
variable {ops:Array Oper} {rest:List Oper} {Q:Exit→AS→Prop}
/-- a map is made -/
theorem ap_makeMap {T:Nat} (hg:o.guard=none) (ho:o.op=.makeMap T none)
 (K:AP Tryz.prog X ops Q rest (AS.put ⟨s.t,(newS s.b (.m [] [] none none)).2⟩ o.dst (.hd (newS s.b (.m [] [] none none)).1.1 (newS s.b (.m [] [] none none)).1.2))):AP Tryz.prog X ops Q (o :: rest) s:=
 .run hg (fun X φ κ f a w h=>by
  have hrun:(execOp a.eval o).run Tryz.prog w=.ok (.value (.map (some w.heap.size))) (w.alloc (.map #[] 0)):=by
   simp only [execOp,ho];rfl
  obtain ⟨φ',κ',f',e1,e2,_,e4,e5⟩:=h.newS_ (w':=w.alloc (.map #[] 0)) (B:=.m [] [] none none) (g:=fun x=>(if x=w.heap.size then 1 else 0) + Ct.z x) (L':=Ct.z) none (some (.map (some w.heap.size))) (by simp) rfl rfl rfl
   (fun x hx _=>Below.heap_alloc w _ x hx) (fun φ' κ' j u a b c d=>.m d (.no .nil) (heap_alloc_new w _) MapIn.nil trivial fun _=>rfl)
   (fun x hx=>by simp [Ct.z];omega) (fun x hx=>by simp only [Ct.z];split<;>simp_all)
  exact ⟨_,_,φ',κ',f',hrun,e5.puts o.dst (.hd e4 rfl)⟩) K
/-- what a value is, as a row -/
theorem RO.put {rows:List (List AV)} {us:List Value} {S:Ct} {v:Value} {n:Nat} (he:RE w φ κ R 1 (rows.take n) (us.take n) S) {S2:Ct} (hd:RE w φ κ R 1 (rows.drop (n + 1)) (us.drop (n + 1)) S2) (hn:n < rows.length) (hv:RV w φ κ R av v Ct.z) (ho:v.oneCell'=true) (T:Ct) (hT:∀ x,T x=S x + S2 x) :
 RO w φ κ R 1 (rows.set n (cRow av)) (oRow n av) (us.take n ++ [v] ++ us.drop (n + 1)) T:=by
 have hl:rows.set n (cRow av)=rows.take n ++ cRow av :: rows.drop (n + 1):=by rw [List.set_eq_take_append_cons_drop,if_pos hn]
 cases hp:av.pl with
 | true=>
  have hc:cRow av=[av]:=by unfold cRow;rw [hp]
  have hor:oRow n av=none:=by unfold oRow;rw [hp]
  have hlf:av.leaf=true:=by cases av<;>first|rfl|(cases hp;done)
  rw [hor,hl,hc,List.append_assoc];refine .no (he.append (T:=fun x=>Ct.z x + S2 x) (.cons (S:=Ct.z) (T:=S2) (us:=[v]) (.cons (S:=Ct.z) (T:=Ct.z) hv .nil fun _=>rfl) rfl ⟨fun u hu=>(by simp at hu;subst hu;exact ho),fun x hx=>(by simp at hx;subst hx;exact hlf)⟩ hd fun _=>rfl) fun x=>?_);rw [hT];simp [Ct.z]
 | false=>
  have hor:oRow n av=some (n,[av]):=by unfold oRow;rw [hp]
  have ht:∀ c:List AV,(rows.set n c).take n=rows.take n:=fun c=>by rw [List.take_set_of_le (Nat.le_refl _)]
  have hdr:∀ c:List AV,(rows.set n c).drop (n + 1)=rows.drop (n + 1):=fun c=>by rw [List.drop_set_of_lt (by omega)]
  rw [hor];exact .yes (by simpa using hn) (by rw [ht];exact he) (.cons (S:=Ct.z) (T:=Ct.z) hv .nil fun _=>rfl) rfl (fun u hu=>(by simp at hu;subst hu;exact ho)) (by rw [hdr];exact hd) rfl hT
theorem RE.split {k n:Nat}:∀ {rows:List (List AV)} {us:List Value} {S:Ct},RE w φ κ R k rows us S→n≤rows.length→∃ S1 S2,RE w φ κ R k (rows.take n) (us.take (n * k)) S1∧RE w φ κ R k (rows.drop n) (us.drop (n * k)) S2∧∀ x,S x=S1 x + S2 x:=by
 induction n with
 | zero=>intro rows us S h _;exact ⟨Ct.z,S,by simpa using RE.nil,by simpa using h,fun x=>by simp [Ct.z]⟩
 | succ n ih=>
  intro rows us S h hn
  cases h with
  | nil=>simp at hn
  | cons h1 h2 h3 h4 h5=>
   obtain ⟨S1,S2,e1,e2,e3⟩:=ih h4 (by simpa using hn)
   rename_i us' vs Sc T
   have q:(n + 1) * k=us'.length + n * k:=by rw [Nat.add_mul,h2];omega
   refine ⟨_,S2,?_,?_,fun x=>(by rw [h5,e3,←Nat.add_assoc])⟩
   ·rw [q,List.take_succ_cons,List.take_length_add_append];exact .cons h1 h2 h3 e1 fun _=>rfl
   ·rw [q,List.drop_succ_cons,List.drop_length_add_append];exact e2
theorem RO.drp {rows:List (List AV)} {us:List Value} {S:Ct} {n:Nat} (h:RO w φ κ R 1 rows none us S) (hn:n < rows.length):∃ S1 S2,RE w φ κ R 1 (rows.take n) (us.take n) S1∧RE w φ κ R 1 (rows.drop (n + 1)) (us.drop (n + 1)) S2∧∀ x,S1 x + S2 x≤S x:=by
 cases h with
 | no he=>
  obtain ⟨S1,S2,e1,e2,e3⟩:=he.split (n:=n) (Nat.le_of_lt hn);obtain ⟨S3,S4,e4,e5,e6⟩:=e2.split (n:=1) (by simp;omega);refine ⟨S1,S4,by simpa using e1,?_,fun x=>(by rw [e3,e6];omega)⟩;simp only [List.drop_drop,Nat.mul_one] at e5;exact e5
/-- one's own map turns -/
theorem SatW.mapTurn (h:SatW X φ κ f Ct.z s a w) {j u g:Nat} {ks:List Value} {rows:List (List AV)} {op:Option (Nat×List AV)} {st:Option (Nat×Nat×Nat)} {es es':Array MapEntry} {clock clock':Nat} {ks' us':List Value} {rows':List (List AV)} {op':Option (Nat×List AV)} {st':Option (Nat×Nat×Nat)} {S S':Ct}
 (hs:s.b[j]? = some ⟨u,.m ks rows op st⟩) (hκ:κ j u=some (.map (some g))) (hh:w.heap[g]? = some (.map es clock)) (hS:∀ y,f j y=(if y=g then 1 else 0) + S y)
 (hro:RO w φ κ X.R 1 rows' op' us' S') (hm:MapIn es' clock' ks' us') (hst:StIn κ es' st') (hle:∀ x,S' x≤S x) :
 ∃ f',SatW X φ κ f' Ct.z ⟨s.t,s.b.set j ⟨u,.m ks' rows' op' st'⟩⟩ a (ChangeMaps.setBlock w g (.map es' clock')):=by
 have hjl:j < s.b.length:=(List.getElem?_eq_some_iff.1 hs).1;have hgl:g < w.heap.size:=(Array.getElem?_eq_some_iff.1 hh).1;have hhp:∀ x,x≠g→(ChangeMaps.setBlock w g (.map es' clock')).heap[x]? = w.heap[x]?:=fun x hx=>by simp [ChangeMaps.setBlock,Array.getElem?_setIfInBounds,Ne.symm hx]
 have hone:∀ x,f j x≤1:=fun x=>by have:=sumF_le f x _ j hjl;have:=h.one x;omega
 have hR:∀ x,X.R x→(ChangeMaps.setBlock w g (.map es' clock')).heap[x]? = w.heap[x]?:=fun x hx=>by
  have h3:=h.not_rd hx;have h4:=sumF_le f x _ j hjl;have h5:=hS x;exact hhp x (by rintro rfl;simp at h5;omega)
 refine ⟨_,h.turn (w':=ChangeMaps.setBlock w g (.map es' clock')) (B:=.m ks' rows' op' st') (u:=u) (g:=fun x=>(if x=g then 1 else 0) + S' x) (L':=Ct.z) hs (fun _ _ _ h=>h) (fun _ _ _ h=>h) (by simp [ChangeMaps.setBlock]) rfl rfl rfl ?_ ?_ (fun x _=>?_) (fun x hx=>?_) (Nat.le_refl _) (fun _ _ _ h=>h) (fun _ _ _ h=>h)⟩
 ·intro x hx h0;have:=hS x;exact hhp x (by rintro rfl;simp at this;omega)
 ·refine .m hκ (RO.keep hR hro fun x hx=>?_) (by simp [ChangeMaps.setBlock,Array.getElem?_setIfInBounds,hgl]) hm hst fun _=>rfl
  have h5:=hS x;have h6:=hone x;have h7:=hle x;exact hhp x (by rintro rfl;simp at h5;omega)
 ·have:=hS x;have:=hle x;simp only [Ct.z];omega
 ·simp only [Ct.z];have h5:=hS x;have h7:=hle x
  have h8:f j x=0:=by
   by_cases h8:f j x=0
   ·exact h8
   ·have:=sumF_le f x _ j hjl;have:=h.own x (by omega);omega
  exact ⟨by omega,fun h0=>by omega⟩
theorem RV.one {v:Value} {S:Ct} (h:RV w φ κ R av v S) (hk:av.known=true) (ha:av.nag=true):v.oneCell'=true:=by
 cases h<;>first|assumption|rfl|exact fnV_one ..|(cases hk;done)|(cases ha;done)
/-- an entry is written, where there is none -/
theorem ap_mapNew {T K E:Nat} {x y z:Operand} {j u:Nat} {ks:List Value} {rows:List (List AV)} {st:Option (Nat×Nat×Nat)} {kv:Value} {i:TI} {sh:List Sh}
 (hg:o.guard=none) (ho:o.op=.mapUpdate T x y z) (hx:aev s x=.hd j u) (hs:s.b[j]? = some ⟨u,.m ks rows none st⟩) (hy:kvl (aev s y)=some kv) (hz:aev s z=av) (hav:av.known=true) (hag:av.nag=true) (hT:tt[T]? = some i) (hk:i.kd=.mp K E) (hf:flatT Tryz.prog 9 K=some sh) (hkv:isKey Tryz.prog K sh kv=true) (hks:∀ k∈ks,isKey Tryz.prog K sh k=true)
 (hn:fnd kv ks=none) (KK:AP Tryz.prog X ops Q rest (AS.put ⟨s.t,s.b.set j ⟨u,.m (ks ++ [kv]) (rows ++ [cRow av]) (oRow rows.length av) none⟩⟩ o.dst (.tu []))):AP Tryz.prog X ops Q (o :: rest) s:=
 .runU hg (fun X φ κ f a w h=>by
  obtain ⟨g,es,clock,us,S,he,hh,hm,hro,hst,hκ,hS⟩:=h.map_ hx hs;have hyv:=(h.ev y).kvl hy;have hzv:=h.evs hz;have hone:=hzv.one hav hag;have hlen:=hro.len;obtain ⟨l1,l2⟩:=hm.kl;have hfE:fndE kv es.toList=none:=by simp only [fndE,hm.ky,hn]
  have e1:=run_findKey_flat (w:=w) (es:=es.toList) hf hkv (hm.keys hks)
  have hrun:(execOp a.eval o).run Tryz.prog w=.ok .skip (ChangeMaps.setBlock w g (.map (es.push ⟨kv,a.eval z,clock⟩) (clock + 1))):=by
   have:(Instr.mapUpdate T (.map (some g)) kv (a.eval z)).run Tryz.prog w=.ok () (ChangeMaps.setBlock w g (.map (es.push ⟨kv,a.eval z,clock⟩) (clock + 1))):=by
    simp [Instr.mapUpdate,run_underlying (ty_mp hT hk),MapKept.run_getObj_map hh,run_check false hf hkv,e1,hfE,MapKept.run_setObj_map _ hh,Result.andThen,ChangeMaps.setBlock]
   simp only [execOp,ho,he,hyv,Sem.run_bind,this];rfl
  have hm':=hm.push kv (a.eval z)
  cases hro with
  | no hre=>
   rw [Nat.mul_one] at hlen;have e3:=RO.put (rows:=rows ++ [cRow av]) (us:=us ++ [a.eval z]) (n:=rows.length) (av:=av) (v:=a.eval z) (S:=S) (S2:=Ct.z) (w:=w) (φ:=φ) (κ:=κ) (R:=X.R) (by simpa [hlen] using hre) (by rw [List.drop_of_length_le (by simp),List.drop_of_length_le (by simp;omega)];exact .nil) (by simp) hzv hone S fun x=>by simp [Ct.z]
   have q1:(rows ++ [cRow av]).set rows.length (cRow av)=rows ++ [cRow av]:=by simp
   have q2:(us ++ [a.eval z]).take rows.length ++ [a.eval z] ++ (us ++ [a.eval z]).drop (rows.length + 1)=us ++ [a.eval z]:=by simp [←hlen]
   rw [q1,q2] at e3;obtain ⟨f',h'⟩:=h.mapTurn hs hκ hh hS e3 hm' (st':=none) trivial fun x=>Nat.le_refl _
   exact ⟨_,φ,κ,f',hrun,h'.puts o.dst (RV.tu RC.nil)⟩) KK
/-- an entry that is turned: its value, its stamp -/
theorem ap_entry {T K E n:Nat} {x y:Operand} {j u:Nat} {ks:List Value} {rows:List (List AV)} {st:Option (Nat×Nat×Nat)} {kv:Value} {i:TI} {sh:List Sh}
 (hg:o.guard=none) (ho:o.op=.mapEntry T x y) (hx:aev s x=.hd j u) (hs:s.b[j]? = some ⟨u,.m ks rows none st⟩) (hy:kvl (aev s y)=some kv) (hT:tt[T]? = some i) (hk:i.kd=.mp K E) (hf:flatT Tryz.prog 9 K=some sh) (hkv:isKey Tryz.prog K sh kv=true) (hks:∀ k∈ks,isKey Tryz.prog K sh k=true)
 (hn:fnd kv ks=some n) (hr:rowAt rows none n=some av) (hjx:j≠(newS s.b .x).1.1)
 (KK:AP Tryz.prog X ops Q rest (AS.put ⟨s.t,(newS s.b .x).2.set j ⟨u,.m ks rows none (some (n,(newS s.b .x).1.1,(newS s.b .x).1.2))⟩⟩ o.dst (.tu [av,.hd (newS s.b .x).1.1 (newS s.b .x).1.2]))):AP Tryz.prog X ops Q (o :: rest) s:=
 .run hg (fun X φ κ f a w h=>by
  obtain ⟨g,es,clock,us,S,he,hh,hm,hro,hst,hκ,hS⟩:=h.map_ hx hs;have hyv:=(h.ev y).kvl hy;obtain ⟨l1,l2⟩:=hm.kl;have hnl:=fnd_lt hn;obtain ⟨k',hk',hkq⟩:=fnd_at hn;obtain ⟨v0,hv0,hrv⟩:=hro.at_ hr;obtain ⟨e,hen,hek,hev⟩:=hm.at_ hk' hv0;have hkk:k'=kv:=(kEq_eq hkv (hks k' (List.mem_of_getElem? hk')) hkq).symm;subst hkk;have hfE:fndE k' es.toList=some (n,v0):=by simp only [fndE,hm.ky,hn];simp [hen,hev]
  have e1:=run_findKey_flat (w:=w) (es:=es.toList) hf hkv (hm.keys hks)
  have hrun:(execOp a.eval o).run Tryz.prog w=.ok (.value (.tuple #[v0,goInt e.born])) (ChangeMaps.setBlock w g (.map (es.modify n fun e=>{ e with key:=k' }) clock)):=by
   have:(Instr.mapEntry T (.map (some g)) k').run Tryz.prog w=.ok (.tuple #[v0,goInt e.born]) (ChangeMaps.setBlock w g (.map (es.modify n fun e=>{ e with key:=k' }) clock)):=by
    simp [Instr.mapEntry,run_underlying (ty_mp hT hk),MapKept.run_getObj_map hh,run_check false hf hkv,e1,hfE,hen,hek,run_stays hkv,MapKept.run_setObj_map _ hh,Result.andThen,ChangeMaps.setBlock]
   simp only [execOp,ho,he,hyv,Sem.run_bind,this];rfl
  have hm':=hm.mod hen v0 (fun e=>{ e with key:=k' }) (by rw [←hek,←hev])
  have hset:us.set n v0=us:=by
   apply List.ext_getElem?;intro i;rw [List.getElem?_set];split
   ·rename_i hi;subst hi;rw [if_pos (by omega),hv0]
   ·rfl
  rw [hset] at hm'
  have hen':(es.modify n fun e=>{ e with key:=k' })[n]? = some e:=by
   rw [Array.getElem?_modify];simp [hen,←hek]
  obtain ⟨φ1,κ1,f1,q1,q2,_,q4,q5⟩:=h.newS_ (w':=w) (B:=.x) (g:=Ct.z) (L':=Ct.z) none (some (goInt e.born)) (Nat.le_refl _) rfl rfl rfl (fun _ _ _=>rfl) (fun _ _ _ _ _ _ _ _=>.x) (fun x _=>by simp [Ct.z]) (fun x _=>by simp [Ct.z])
  have hs1:(newS s.b .x).2[j]? = some ⟨u,.m ks rows none st⟩:=by
   unfold newS at hjx ⊢
   cases hfx:findX s.b 0 with
   | some p=>
    obtain ⟨d,v⟩:=p;rw [hfx] at hjx;dsimp only at hjx ⊢;rw [List.getElem?_set_ne (Ne.symm hjx)];exact hs
   | none=>
    dsimp only;rw [List.getElem?_append_left (List.getElem?_eq_some_iff.1 hs).1];exact hs
  obtain ⟨g1,es1,clock1,us1,S1,he1,hh1,hm1,hro1,hst1,hκ1,hS1⟩:=SatW.map_ (s:=⟨s.t,(newS s.b .x).2⟩) q5 (x:=x) (by cases x<;>exact hx) hs1;rw [he] at he1;injection he1 with he1;injection he1 with he1;subst he1
  rw [hh] at hh1;injection hh1 with hh1;injection hh1 with ha hb;subst ha;subst hb
  have husq:us1=us:=by rw [←hm1.vl,←hm.vl]
  subst husq;obtain ⟨f2,h2⟩:=SatW.mapTurn (s:=⟨s.t,(newS s.b .x).2⟩) q5 hs1 hκ1 hh hS1 hro1 hm' (st':=some (n,(newS s.b .x).1.1,(newS s.b .x).1.2)) ⟨e,hen',q4⟩ fun x=>Nat.le_refl _
  have hrv1:RV (ChangeMaps.setBlock w g (.map (es.modify n fun e=>{ e with key:=k' }) clock)) φ1 κ1 X.R av v0 Ct.z:=by
   have:=RV.hist q1 q2 (fun _ h=>h) hrv;refine RV.keep (fun x hx=>?_) this fun x hx=>absurd rfl hx
   have h3:=h.not_rd hx;have hjl:j < s.b.length:=(List.getElem?_eq_some_iff.1 hs).1;have h4:=sumF_le f x _ j hjl;have h5:=hS x;have:x≠g:=by rintro rfl;simp at h5;omega
   simp [ChangeMaps.setBlock,Array.getElem?_setIfInBounds,Ne.symm this]
  exact ⟨_,_,φ1,κ1,f2,hrun,h2.puts o.dst (.tu (.cons (S:=Ct.z) (T:=Ct.z) hrv1 (.cons (S:=Ct.z) (T:=Ct.z) (.hd q4 rfl) .nil fun _=>rfl) fun _=>rfl))⟩) KK
/-- an entry that is turned, where there was none -/
theorem ap_entryN {T K E:Nat} {x y:Operand} {j u:Nat} {ks:List Value} {rows:List (List AV)} {st:Option (Nat×Nat×Nat)} {kv:Value} {i ie:TI} {sh:List Sh} {c:ZC}
 (hg:o.guard=none) (ho:o.op=.mapEntry T x y) (hx:aev s x=.hd j u) (hs:s.b[j]? = some ⟨u,.m ks rows none st⟩) (hy:kvl (aev s y)=some kv) (hT:tt[T]? = some i) (hk:i.kd=.mp K E) (hE:tt[E]? = some ie) (hzc:ie.zero=some [c]) (hrk:rowK ie.kd=false) (hf:flatT Tryz.prog 9 K=some sh) (hkv:isKey Tryz.prog K sh kv=true) (hks:∀ k∈ks,isKey Tryz.prog K sh k=true)
 (hn:fnd kv ks=none) (hjx:j≠(newS s.b .x).1.1)
 (KK:AP Tryz.prog X ops Q rest (AS.put ⟨s.t,(newS s.b .x).2.set j ⟨u,.m (ks ++ [kv]) (rows ++ [[.sc c.val]]) none (some (rows.length,(newS s.b .x).1.1,(newS s.b .x).1.2))⟩⟩ o.dst (.tu [.sc c.val,.hd (newS s.b .x).1.1 (newS s.b .x).1.2]))):AP Tryz.prog X ops Q (o :: rest) s:=
 .run hg (fun X φ κ f a w h=>by
  obtain ⟨g,es,clock,us,S,he,hh,hm,hro,hst,hκ,hS⟩:=h.map_ hx hs;have hyv:=(h.ev y).kvl hy;obtain ⟨l1,l2⟩:=hm.kl;have hlen:=hro.len;have hone:c.val.oneCell'=true:=by cases c<;>rfl
  have hfE:fndE kv es.toList=none:=by simp only [fndE,hm.ky,hn]
  have e1:=run_findKey_flat (w:=w) (es:=es.toList) hf hkv (hm.keys hks)
  have hrun:(execOp a.eval o).run Tryz.prog w=.ok (.value (.tuple #[c.val,goInt clock])) (ChangeMaps.setBlock w g (.map (es.push ⟨kv,c.val,clock⟩) (clock + 1))):=by
   have:(Instr.mapEntry T (.map (some g)) kv).run Tryz.prog w=.ok (.tuple #[c.val,goInt clock]) (ChangeMaps.setBlock w g (.map (es.push ⟨kv,c.val,clock⟩) (clock + 1))):=by
    simp [Instr.mapEntry,run_underlying (ty_mp hT hk),MapKept.run_getObj_map hh,run_check false hf hkv,e1,hfE,run_zero1 hE hzc hrk,MapKept.run_setObj_map _ hh,Result.andThen,ChangeMaps.setBlock]
   simp only [execOp,ho,he,hyv,Sem.run_bind,this];rfl
  have hm':=hm.push kv c.val
  have hen':(es.push ⟨kv,c.val,clock⟩)[rows.length]? = some ⟨kv,c.val,clock⟩:=by
   rw [show rows.length=es.size by omega];simp
  obtain ⟨φ1,κ1,f1,q1,q2,_,q4,q5⟩:=h.newS_ (w':=w) (B:=.x) (g:=Ct.z) (L':=Ct.z) none (some (goInt clock)) (Nat.le_refl _) rfl rfl rfl (fun _ _ _=>rfl) (fun _ _ _ _ _ _ _ _=>.x) (fun x _=>by simp [Ct.z]) (fun x _=>by simp [Ct.z])
  have hs1:(newS s.b .x).2[j]? = some ⟨u,.m ks rows none st⟩:=by
   unfold newS at hjx ⊢
   cases hfx:findX s.b 0 with
   | some p=>
    obtain ⟨d,v⟩:=p;rw [hfx] at hjx;dsimp only at hjx ⊢;rw [List.getElem?_set_ne (Ne.symm hjx)];exact hs
   | none=>
    dsimp only;rw [List.getElem?_append_left (List.getElem?_eq_some_iff.1 hs).1];exact hs
  obtain ⟨g1,es1,clock1,us1,S1,he1,hh1,hm1,hro1,hst1,hκ1,hS1⟩:=SatW.map_ (s:=⟨s.t,(newS s.b .x).2⟩) q5 (x:=x) (by cases x<;>exact hx) hs1;rw [he] at he1;injection he1 with he1;injection he1 with he1;subst he1
  rw [hh] at hh1;injection hh1 with hh1;injection hh1 with ha hb;subst ha;subst hb
  have husq:us1=us:=by rw [←hm1.vl,←hm.vl]
  subst husq
  cases hro1 with
  | no hre=>
   have hre':=hre.append (T:=Ct.z) (U:=S1) (.cons (k:=1) (c:=[.sc c.val]) (us:=[c.val]) (S:=Ct.z) (T:=Ct.z) (U:=Ct.z) (.cons (S:=Ct.z) (T:=Ct.z) (.sc hone) .nil fun _=>rfl) rfl ⟨fun u hu=>(by simp at hu;subst hu;exact hone),fun x hx=>(by simp at hx;subst hx;rfl)⟩ .nil fun _=>rfl) fun x=>by simp [Ct.z]
   rw [List.append_nil] at hre';obtain ⟨f2,h2⟩:=SatW.mapTurn (s:=⟨s.t,(newS s.b .x).2⟩) q5 hs1 hκ1 hh hS1 (.no hre') hm' (st':=some (rows.length,(newS s.b .x).1.1,(newS s.b .x).1.2)) ⟨_,hen',q4⟩ fun x=>Nat.le_refl _
   exact ⟨_,_,φ1,κ1,f2,hrun,h2.puts o.dst (.tu (.cons (S:=Ct.z) (T:=Ct.z) (.sc hone) (.cons (S:=Ct.z) (T:=Ct.z) (.hd q4 rfl) .nil fun _=>rfl) fun _=>rfl))⟩) KK
/-- the entry is written by its stamp -/
theorem ap_stamp {T n:Nat} {x y z:Operand} {j u jd vd:Nat} {ks:List Value} {rows:List (List AV)}
 (hg:o.guard=none) (ho:o.op=.entryStore T x y z) (hx:aev s x=.hd j u) (hs:s.b[j]? = some ⟨u,.m ks rows none (some (n,jd,vd))⟩) (hy:aev s y=.hd jd vd) (hz:aev s z=av) (hav:av.known=true) (hag:av.nag=true)
 (KK:AP Tryz.prog X ops Q rest (AS.put ⟨s.t,s.b.set j ⟨u,.m ks (rows.set n (cRow av)) (oRow n av) none⟩⟩ o.dst (.tu []))):AP Tryz.prog X ops Q (o :: rest) s:=
 .runU hg (fun X φ κ f a w h=>by
  obtain ⟨g,es,clock,us,S,he,hh,hm,hro,hst,hκ,hS⟩:=h.map_ hx hs;have hzv:=h.evs hz;have hone:=hzv.one hav hag;obtain ⟨e,hen,hkb⟩:=hst
  have hyv:a.eval y=goInt e.born:=by
   have:=h.evs hy;generalize a.eval y=p at this
   cases this with
   | hd hκ' _=>rw [hkb] at hκ';injection hκ' with e;exact e.symm
  obtain ⟨l1,l2⟩:=hm.kl;have hlen:=hro.len;have hnl:=(Array.getElem?_eq_some_iff.1 hen).1
  have hrun:(execOp a.eval o).run Tryz.prog w=.ok .skip (ChangeMaps.setBlock w g (.map (es.modify n fun e=>{ e with val:=a.eval z }) clock)):=by
   have hb:=hm.born hen
   have:(Instr.entryStore T (.map (some g)) (goInt e.born) (a.eval z)).run Tryz.prog w=.ok () (ChangeMaps.setBlock w g (.map (es.modify n fun e=>{ e with val:=a.eval z }) clock)):=by
    simp [Instr.entryStore,MapKept.run_getObj_map hh,goInt,go_sem,hb,MapKept.run_setObj_map _ hh,Result.andThen,ChangeMaps.setBlock]
   simp only [execOp,ho,he,hyv,Sem.run_bind,this];rfl
  obtain ⟨S1,S2,r1,r2,r3⟩:=hro.drp (n:=n) (by omega);have hm':=hm.mod hen (a.eval z) (fun e=>{ e with val:=a.eval z }) rfl;have hset:us.set n (a.eval z)=us.take n ++ [a.eval z] ++ us.drop (n + 1):=by rw [List.set_eq_take_append_cons_drop,if_pos (by omega)];simp
  rw [hset] at hm';obtain ⟨f',h'⟩:=h.mapTurn hs hκ hh hS (RO.put r1 r2 (by omega) hzv hone _ fun _=>rfl) hm' (st':=none) trivial r3;exact ⟨_,φ,κ,f',hrun,h'.puts o.dst (RV.tu RC.nil)⟩) KK
end
section
variable {X:Cx} {φ φ':Fi} {κ κ':Ka} {f:Nat→Ct} {L L':Ct} {s s':AS} {a:Act} {w w':World} {R:Nat→Prop} {o:Oper} {av:AV} {ops:Array Oper} {rest:List Oper} {Q:Exit→AS→Prop}
/-- what an array with an open row stands for -/
theorem SatW.opn_ (h:SatW X φ κ f L s a w) {j u k n:Nat} {e:TypeId} {rows:List (List AV)} {c:List AV} (hs:s.b[j]? = some ⟨u,.f e k rows n c⟩) :
 ∃ g cap cur us1 cs us2 S1 S2,κ j u=some (.slice (some ⟨g,0,none⟩) rows.length cap)∧n < rows.length∧RE w φ κ X.R k (rows.take n) us1 S1∧RC w φ κ X.R c cs Ct.z∧cs.length=k∧(∀ u∈cs,u.oneCell'=true)∧RE w φ κ X.R k (rows.drop (n + 1)) us2 S2 ∧
  Mk w g cur e∧rows.length≤cap∧cap≤maxLen∧cur.size=cap * k∧cur.toList.take (rows.length * k)=us1 ++ cs ++ us2∧(∀ x,f j x=(if x=g then 1 else 0) + (S1 x + S2 x))∧us1.length=n * k:=by
 have h2:=h.sl j _ hs;generalize f j=F at h2
 cases h2 with
 | @f _ _ _ _ _ g cap cur us S' _ hκ hro hmk hle hm hsz htk hS=>
  cases hro with
  | yes hn e1 e2 e3 e4 e6 e7 e8=>
   have l1:=e1.length;rw [List.length_take,Nat.min_eq_left (Nat.le_of_lt hn)] at l1;exact ⟨g,cap,cur,_,_,_,_,_,hκ,hn,e1,e2,e3,e4,e6,hmk,hle,hm,hsz,by rw [htk,e7],fun x=>by rw [hS,e8],l1⟩
theorem pq_index_f {T e e':Nat} {x y:Operand} {b u k n:Nat} {rows:List (List AV)} {c:List AV} {i ie:TI} {kk:IntKind} {j:Int} (ho:o.op=.indexAddr T x y) (hx:aev s x=.hd b u) (hs:s.b[b]? = some ⟨u,.f e' k rows n c⟩) (hy:aev s y=.sc (.int kk j)) (hT:tt[T]? = some i) (hk:i.kd=.sl e) (he:tt[e]? = some ie) (hsz:ie.size=k)
 (h0:0≤j) (hj:j < rows.length):Pq Tryz.prog X s o (.ep b u k j.toNat 0):=.of_run fun X φ κ f a w h=>by
 obtain ⟨g,cap,cur,us1,cs,us2,S1,S2,hκ,_⟩:=h.opn_ hs;have h1:=h.evs hx;have h2:=h.evc hy;generalize hp:a.eval x=p at h1
 cases h1 with
 | hd hκ' _=>
  rw [hκ] at hκ';injection hκ' with e;subst e
  refine ⟨_,.ep hκ,fun w' _=>?_⟩;simp only [execOp,ho,hp,h2,Sem.run_bind,run_index hT hk he h0 hj w'];simp [go_sem,hsz]
/-- the open row's cells -/
theorem SatW.elemf (h:SatW X φ κ f L s a w) {x:Operand} {b u k n off:Nat} {e:TypeId} {rows:List (List AV)} {c:List AV} (hx:aev s x=.ep b u k n off) (hs:s.b[b]? = some ⟨u,.f e k rows n c⟩) :
 ∃ g cs,a.eval x=.pointer (some ⟨g,n * k + off,none⟩)∧RC w φ κ X.R c cs Ct.z∧cs.length=k∧(∀ u∈cs,u.oneCell'=true)∧∀ w',Below w.heap.size w w'→w'.rangeAt g (n * k) cs:=by
 obtain ⟨g,cap,cur,us1,cs,us2,S1,S2,hκ,hn,e1,e2,e3,e4,e6,hmk,hle,hm,hsz,htk,hS,l1⟩:=h.opn_ hs;have h1:=h.evs hx;generalize hp:a.eval x=p at h1
 cases h1 with
 | ep hκ'=>
  rw [hκ] at hκ';injection hκ' with e;injection e with e;injection e with e;injection e with e;subst e
  refine ⟨g,cs,rfl,e2,e3,e4,fun w' hb j v hv=>?_⟩;rw [(Mk.keep (hb.block g hmk.lt) hmk).cell (n * k + j)];have hjl:j < cs.length:=(List.getElem?_eq_some_iff.1 hv).1
  have h5:(cur.toList.take (rows.length * k))[n * k + j]? = some v:=by
   rw [htk,List.append_assoc,List.getElem?_append_right (by omega),l1,Nat.add_sub_cancel_left,List.getElem?_append_left hjl];exact hv
  rw [List.getElem?_take] at h5;split at h5
  ·simpa using h5
  ·cases h5
theorem pq_load1_f {T:TypeId} {x:Operand} {b u k n off:Nat} {e:TypeId} {rows:List (List AV)} {c:List AV} {ti:TI} (ho:o.op=.load T x) (hx:aev s x=.ep b u k n off) (hs:s.b[b]? = some ⟨u,.f e k rows n c⟩)
 (hT:tt[T]? = some ti) (hk:rowK ti.kd=false) (hl:c[off]? = some av):Pq Tryz.prog X s o av:=.of_run fun X φ κ f a w h=>by
 obtain ⟨d,hd,hr,_⟩:=ty_flat hT hk;obtain ⟨g,cs,he,hrc,hkl,_,hrange⟩:=h.elemf hx hs;obtain ⟨v,hv,hrv⟩:=hrc.at_ hl;refine ⟨v,hrv,fun w' hb=>?_⟩;simp only [execOp,ho,he,Sem.run_bind,run_loadAt_flat w' hd hr (hrange w' hb off v hv)];simp [go_sem]
def delK {α:Type} (l:List α):Option Nat→List α
 | some n=>l.eraseIdx n
 | none=>l
/-- taken out of a map -/
theorem run_del {x y:Operand} {tys:Array TypeId} {a:Act} {v:Value} (ho:o.op=.call { callee:=.builtin .delete,args:=#[x,y],argTypes:=tys }) (h:∀ ty,(Builtin.delete_ tys ty #[a.eval x,a.eval y]).run Tryz.prog w=.ok v w') :
 (execOp a.eval o).run Tryz.prog w=.ok (.value v) w':=by
 simp only [execOp,ho,resolve,invoke,builtin,Sem.run_bind,Sem.run_pure,Result.andThen_ok,List.map_toArray,List.map_cons,List.map_nil,h]
theorem ap_del {T K E:Nat} {x y:Operand} {j u:Nat} {ks:List Value} {rows:List (List AV)} {st:Option (Nat×Nat×Nat)} {kv:Value} {i:TI} {sh:List Sh} {r:Option Nat}
 (hg:o.guard=none) (ho:o.op=.call { callee:=.builtin .delete,args:=#[x,y],argTypes:=#[T,K] }) (hx:aev s x=.hd j u) (hs:s.b[j]? = some ⟨u,.m ks rows none st⟩) (hy:kvl (aev s y)=some kv) (hT:tt[T]? = some i) (hk:i.kd=.mp K E) (hf:flatT Tryz.prog 9 K=some sh) (hkv:isKey Tryz.prog K sh kv=true) (hks:∀ k∈ks,isKey Tryz.prog K sh k=true)
 (hn:fnd kv ks=r) (KK:AP Tryz.prog X ops Q rest (AS.put ⟨s.t,s.b.set j ⟨u,.m (delK ks r) (delK rows r) none none⟩⟩ o.dst (.tu []))):AP Tryz.prog X ops Q (o :: rest) s:=
 .run hg (fun X φ κ f a w h=>by
  obtain ⟨g,es,clock,us,S,he,hh,hm,hro,hst,hκ,hS⟩:=h.map_ hx hs;have hyv:=(h.ev y).kvl hy;have hlen:=hro.len;obtain ⟨l1,l2⟩:=hm.kl;have e1:=run_findKey_flat (w:=w) (es:=es.toList) hf hkv (hm.keys hks)
  cases r with
  | none=>
   have hfE:fndE kv es.toList=none:=by simp only [fndE,hm.ky,hn]
   have hrun:(execOp a.eval o).run Tryz.prog w=.ok (.value (.tuple #[])) (ChangeMaps.setBlock w g (.map es clock)):=run_del ho fun ty=>by
    rw [he,hyv];simp [Builtin.delete_,run_underlying (ty_mp hT hk),MapKept.run_getObj_map hh,run_check es.isEmpty hf hkv,e1,hfE,MapKept.run_setObj_map _ hh,Result.andThen,ChangeMaps.setBlock]
   obtain ⟨f',h'⟩:=h.mapTurn hs hκ hh hS hro hm (st':=none) trivial fun x=>Nat.le_refl _
   exact ⟨_,_,φ,κ,f',hrun,h'.puts o.dst (RV.tu RC.nil)⟩
  | some n=>
   have hnl:=fnd_lt hn;have hfE:∃ v,fndE kv es.toList=some (n,v):=by simp only [fndE,hm.ky,hn];exact ⟨_,rfl⟩
   obtain ⟨v0,hfE⟩:=hfE
   have hrun:(execOp a.eval o).run Tryz.prog w=.ok (.value (.tuple #[])) (ChangeMaps.setBlock w g (.map (es.eraseIdxIfInBounds n) clock)):=run_del ho fun ty=>by
    rw [he,hyv];simp [Builtin.delete_,run_underlying (ty_mp hT hk),MapKept.run_getObj_map hh,run_check es.isEmpty hf hkv,e1,hfE,MapKept.run_setObj_map _ hh,Result.andThen,ChangeMaps.setBlock]
   obtain ⟨S1,S2,r1,r2,r3⟩:=hro.drp (n:=n) (by omega);have q:=r1.append (U:=fun x=>S1 x + S2 x) r2 fun _=>rfl
   rw [←List.eraseIdx_eq_take_drop_succ,←List.eraseIdx_eq_take_drop_succ] at q;obtain ⟨f',h'⟩:=h.mapTurn hs hκ hh hS (.no q) (hm.erase n) (st':=none) trivial r3;exact ⟨_,_,φ,κ,f',hrun,h'.puts o.dst (RV.tu RC.nil)⟩) KK
/-- a map of one's own isn't nil -/
theorem run_eq_map {P:Program} {T K E:TypeId} (hT:P.underlying T=some (.map K E)) (p:Option Nat) (w:World):(Op.equal T (.map p) (.map none)).run P w=.ok p.isNone w:=by
 have key:∀ d,(Op.equalIn (d + 1) T (.map p) (.map none)).run P w=.ok p.isNone w:=fun d=>by
  cases p<;>simp [Op.equalIn,run_underlying hT]
 exact key 9999
theorem run_bin_map {op:BinOp} {T T' K E:TypeId} {x y:Operand} {a:Act} {p:Option Nat} {r:Bool} (hT:Tryz.prog.underlying T=some (.map K E)) (ho:o.op=.binOp op T x y T') (hx:a.eval x=.map p) (hy:a.eval y=.map none) (hr:nilB op p.isNone=some r) (w:World) :
 (execOp a.eval o).run Tryz.prog w=.ok (.value (.bool r)) w:=by
 unfold nilB at hr
 cases op<;>simp only [Option.some.injEq,reduceCtorEq] at hr<;>subst hr<;>simp only [execOp,ho,hx,hy] <;>
  simp [eqGuard,binOp,run_eq_map hT,go_sem]
theorem pq_mnil {op:BinOp} {T T' K E:TypeId} {x y:Operand} {j u:Nat} {ks:List Value} {rows:List (List AV)} {p:Option (Nat×List AV)} {st:Option (Nat×Nat×Nat)} {i:TI} {r:Bool} (ho:o.op=.binOp op T x y T') (hx:aev s x=.hd j u) (hs:s.b[j]? = some ⟨u,.m ks rows p st⟩) (hy:aev s y=.sc (.map none)) (hr:nilB op false=some r) (hT:tt[T]? = some i) (hk:i.kd=.mp K E):Pq Tryz.prog X s o (.sc (.bool r)):=.of_run fun X φ κ f a w h=>by
 obtain ⟨g,es,clock,us,S,he,_⟩:=h.map_ hx hs;exact ⟨_,.sc rfl,fun w' _=>run_bin_map (ty_mp hT hk) ho he (h.evc hy) hr w'⟩
end
theorem rowAt_open {rows:List (List AV)} {n:Nat} {a:AV} {l:List AV}:rowAt rows (some (n,a :: l)) n=some a:=by
 have:Nat.beq n n=true:=Nat.beq_refl n;simp [rowAt,this]
theorem rowAt_map {α:Type} {l:List α} {n:Nat} {e:α→List AV} {x:α} {a:AV} {r:List AV} (h:l[n]? = some x) (he:e x=a :: r):rowAt (l.map e) none n=some a.cp:=by
 simp [rowAt,h,he]
section
variable {X:Cx} {s:AS} {ops:Array Oper} {rest:List Oper} {Q:Exit→AS→Prop} {av:AV} {d:Option Nat} {ty:Nat} {pos:String} {aft:Array Edge} {T K E n:Nat} {x y z:Operand} {j u:Nat} {ks:List Value} {rows:List (List AV)} {op:Option (Nat×List AV)} {st:Option (Nat×Nat×Nat)} {kv:Value} {i ie:TI} {sh:List Sh} {c:ZC}
theorem AP.LK (KK:AP Tryz.prog X ops Q rest (s.put d av)) (hx:aev s x=.hd j u:=by exact rfl) (hs:s.b[j]? = some ⟨u,.m ks rows op st⟩:=by exact rfl) (hy:kvl (aev s y)=some kv:=by exact rfl) (hT:tt[T]? = some i:=by exact rfl) (hk:i.kd=.mp K E:=by exact rfl) (hks:∀ k∈ks,isKey Tryz.prog K sh k=true:=by with_reducible assumption) (hf:flatT Tryz.prog 9 K=some sh:=by kernel_rfl) (hkv:isKey Tryz.prog K sh kv=true:=by kernel_rfl)
 (hn:fnd kv ks=some n:=by assumption) (hr:rowAt rows op n=some av:=by first|assumption|exact rowAt_open|exact rfl):AP Tryz.prog X ops Q (⟨d,.lookup T x y false,ty,pos,aft,none⟩ :: rest) s:=AP.pure rfl (pq_look (ok:=false) rfl hx hs hy hT hk hf hkv hks hn hr) KK
theorem AP.LK2 (KK:AP Tryz.prog X ops Q rest (s.put d (.tu [av,.sc (.bool true)]))) (hx:aev s x=.hd j u:=by exact rfl) (hs:s.b[j]? = some ⟨u,.m ks rows op st⟩:=by exact rfl) (hy:kvl (aev s y)=some kv:=by exact rfl) (hT:tt[T]? = some i:=by exact rfl) (hk:i.kd=.mp K E:=by exact rfl) (hks:∀ k∈ks,isKey Tryz.prog K sh k=true:=by with_reducible assumption) (hf:flatT Tryz.prog 9 K=some sh:=by kernel_rfl) (hkv:isKey Tryz.prog K sh kv=true:=by kernel_rfl)
 (hn:fnd kv ks=some n:=by assumption) (hr:rowAt rows op n=some av:=by first|assumption|exact rowAt_open|exact rfl):AP Tryz.prog X ops Q (⟨d,.lookup T x y true,ty,pos,aft,none⟩ :: rest) s:=AP.pure rfl (pq_look (ok:=true) rfl hx hs hy hT hk hf hkv hks hn hr) KK
theorem AP.LN (KK:AP Tryz.prog X ops Q rest (s.put d (.sc c.val))) (hx:aev s x=.hd j u:=by exact rfl) (hs:s.b[j]? = some ⟨u,.m ks rows op st⟩:=by exact rfl) (hy:kvl (aev s y)=some kv:=by exact rfl) (hT:tt[T]? = some i:=by exact rfl) (hk:i.kd=.mp K E:=by exact rfl) (hE:tt[E]? = some ie:=by exact rfl) (hz:ie.zero=some [c]:=by exact rfl) (hrk:rowK ie.kd=false:=by exact rfl) (hks:∀ k∈ks,isKey Tryz.prog K sh k=true:=by with_reducible assumption) (hf:flatT Tryz.prog 9 K=some sh:=by kernel_rfl) (hkv:isKey Tryz.prog K sh kv=true:=by kernel_rfl)
 (hn:fnd kv ks=none:=by assumption):AP Tryz.prog X ops Q (⟨d,.lookup T x y false,ty,pos,aft,none⟩ :: rest) s:=AP.pure rfl (pq_lookN (ok:=false) rfl hx hs hy hT hk hE hz hrk hf hkv hks hn) KK
theorem AP.LN2 (KK:AP Tryz.prog X ops Q rest (s.put d (.tu [.sc c.val,.sc (.bool false)]))) (hx:aev s x=.hd j u:=by exact rfl) (hs:s.b[j]? = some ⟨u,.m ks rows op st⟩:=by exact rfl) (hy:kvl (aev s y)=some kv:=by exact rfl) (hT:tt[T]? = some i:=by exact rfl) (hk:i.kd=.mp K E:=by exact rfl) (hE:tt[E]? = some ie:=by exact rfl) (hz:ie.zero=some [c]:=by exact rfl) (hrk:rowK ie.kd=false:=by exact rfl) (hks:∀ k∈ks,isKey Tryz.prog K sh k=true:=by with_reducible assumption) (hf:flatT Tryz.prog 9 K=some sh:=by kernel_rfl) (hkv:isKey Tryz.prog K sh kv=true:=by kernel_rfl)
 (hn:fnd kv ks=none:=by assumption):AP Tryz.prog X ops Q (⟨d,.lookup T x y true,ty,pos,aft,none⟩ :: rest) s:=AP.pure rfl (pq_lookN (ok:=true) rfl hx hs hy hT hk hE hz hrk hf hkv hks hn) KK
theorem AP.MM (KK:AP Tryz.prog X ops Q rest (AS.put ⟨s.t,(newS s.b (.m [] [] none none)).2⟩ d (.hd (newS s.b (.m [] [] none none)).1.1 (newS s.b (.m [] [] none none)).1.2))):AP Tryz.prog X ops Q (⟨d,.makeMap T none,ty,pos,aft,none⟩ :: rest) s:=ap_makeMap rfl rfl KK
theorem AP.MN (KK:AP Tryz.prog X ops Q rest (AS.put ⟨s.t,s.b.set j ⟨u,.m (ks ++ [kv]) (rows ++ [cRow av]) (oRow rows.length av) none⟩⟩ d (.tu []))) (hx:aev s x=.hd j u:=by exact rfl) (hs:s.b[j]? = some ⟨u,.m ks rows none st⟩:=by exact rfl) (hy:kvl (aev s y)=some kv:=by exact rfl) (hz:aev s z=av:=by exact rfl) (hav:av.known=true:=by exact rfl) (hag:av.nag=true:=by exact rfl) (hT:tt[T]? = some i:=by exact rfl) (hk:i.kd=.mp K E:=by exact rfl) (hks:∀ k∈ks,isKey Tryz.prog K sh k=true:=by with_reducible assumption) (hf:flatT Tryz.prog 9 K=some sh:=by kernel_rfl) (hkv:isKey Tryz.prog K sh kv=true:=by kernel_rfl)
 (hn:fnd kv ks=none:=by assumption):AP Tryz.prog X ops Q (⟨d,.mapUpdate T x y z,ty,pos,aft,none⟩ :: rest) s:=ap_mapNew rfl rfl hx hs hy hz hav hag hT hk hf hkv hks hn KK
theorem AP.ME (KK:AP Tryz.prog X ops Q rest (AS.put ⟨s.t,(newS s.b .x).2.set j ⟨u,.m ks rows none (some (n,(newS s.b .x).1.1,(newS s.b .x).1.2))⟩⟩ d (.tu [av,.hd (newS s.b .x).1.1 (newS s.b .x).1.2]))) (hx:aev s x=.hd j u:=by exact rfl) (hs:s.b[j]? = some ⟨u,.m ks rows none st⟩:=by exact rfl) (hy:kvl (aev s y)=some kv:=by exact rfl) (hT:tt[T]? = some i:=by exact rfl) (hk:i.kd=.mp K E:=by exact rfl) (hks:∀ k∈ks,isKey Tryz.prog K sh k=true:=by with_reducible assumption) (hf:flatT Tryz.prog 9 K=some sh:=by kernel_rfl) (hkv:isKey Tryz.prog K sh kv=true:=by kernel_rfl)
 (hn:fnd kv ks=some n:=by assumption) (hr:rowAt rows none n=some av:=by first|assumption|exact rfl) (hjx:Nat.beq j (newS s.b .x).1.1=false:=by exact rfl):AP Tryz.prog X ops Q (⟨d,.mapEntry T x y,ty,pos,aft,none⟩ :: rest) s:=ap_entry rfl rfl hx hs hy hT hk hf hkv hks hn hr (fun h=>by rw [h] at hjx;simp at hjx) KK
theorem AP.MF (KK:AP Tryz.prog X ops Q rest (AS.put ⟨s.t,(newS s.b .x).2.set j ⟨u,.m (ks ++ [kv]) (rows ++ [[.sc c.val]]) none (some (rows.length,(newS s.b .x).1.1,(newS s.b .x).1.2))⟩⟩ d (.tu [.sc c.val,.hd (newS s.b .x).1.1 (newS s.b .x).1.2]))) (hx:aev s x=.hd j u:=by exact rfl) (hs:s.b[j]? = some ⟨u,.m ks rows none st⟩:=by exact rfl) (hy:kvl (aev s y)=some kv:=by exact rfl) (hT:tt[T]? = some i:=by exact rfl) (hk:i.kd=.mp K E:=by exact rfl) (hE:tt[E]? = some ie:=by exact rfl) (hz:ie.zero=some [c]:=by exact rfl) (hrk:rowK ie.kd=false:=by exact rfl) (hks:∀ k∈ks,isKey Tryz.prog K sh k=true:=by with_reducible assumption) (hf:flatT Tryz.prog 9 K=some sh:=by kernel_rfl) (hkv:isKey Tryz.prog K sh kv=true:=by kernel_rfl)
 (hn:fnd kv ks=none:=by assumption) (hjx:Nat.beq j (newS s.b .x).1.1=false:=by exact rfl):AP Tryz.prog X ops Q (⟨d,.mapEntry T x y,ty,pos,aft,none⟩ :: rest) s:=ap_entryN rfl rfl hx hs hy hT hk hE hz hrk hf hkv hks hn (fun h=>by rw [h] at hjx;simp at hjx) KK
theorem AP.MS {jd vd:Nat} (KK:AP Tryz.prog X ops Q rest (AS.put ⟨s.t,s.b.set j ⟨u,.m ks (rows.set n (cRow av)) (oRow n av) none⟩⟩ d (.tu []))) (hx:aev s x=.hd j u:=by exact rfl) (hs:s.b[j]? = some ⟨u,.m ks rows none (some (n,jd,vd))⟩:=by exact rfl) (hy:aev s y=.hd jd vd:=by exact rfl) (hz:aev s z=av:=by exact rfl) (hav:av.known=true:=by exact rfl) (hag:av.nag=true:=by exact rfl):AP Tryz.prog X ops Q (⟨d,.entryStore T x y z,ty,pos,aft,none⟩ :: rest) s:=ap_stamp rfl rfl hx hs hy hz hav hag KK
theorem AP.MD {r:Option Nat} (KK:AP Tryz.prog X ops Q rest (AS.put ⟨s.t,s.b.set j ⟨u,.m (delK ks r) (delK rows r) none none⟩⟩ d (.tu []))) (hx:aev s x=.hd j u:=by exact rfl) (hs:s.b[j]? = some ⟨u,.m ks rows none st⟩:=by exact rfl) (hy:kvl (aev s y)=some kv:=by exact rfl) (hT:tt[T]? = some i:=by exact rfl) (hk:i.kd=.mp K E:=by exact rfl) (hks:∀ k∈ks,isKey Tryz.prog K sh k=true:=by with_reducible assumption) (hf:flatT Tryz.prog 9 K=some sh:=by kernel_rfl) (hkv:isKey Tryz.prog K sh kv=true:=by kernel_rfl)
 (hn:fnd kv ks=r:=by assumption):AP Tryz.prog X ops Q (⟨d,.call { callee:=.builtin .delete,args:=#[x,y],argTypes:=#[T,K] },ty,pos,aft,none⟩ :: rest) s:=ap_del rfl rfl hx hs hy hT hk hf hkv hks hn KK
theorem AP.MZ {bo:BinOp} {T':TypeId} {r:Bool} (KK:AP Tryz.prog X ops Q rest (s.put d (.sc (.bool r)))) (hx:aev s x=.hd j u:=by exact rfl) (hs:s.b[j]? = some ⟨u,.m ks rows op st⟩:=by exact rfl) (hy:aev s y=.sc (.map none):=by exact rfl) (hr:nilB bo false=some r:=by exact rfl) (hT:tt[T]? = some i:=by exact rfl) (hk:i.kd=.mp K E:=by exact rfl):AP Tryz.prog X ops Q (⟨d,.binOp bo T x y T',ty,pos,aft,none⟩ :: rest) s:=AP.pure rfl (pq_mnil rfl hx hs hy hr hT hk) KK
/-! open rows -/
variable {e e' k off b:Nat} {cl:List AV} {ti:TI} {kk:IntKind} {jj:Int}
theorem AP.FI (KK:AP Tryz.prog X ops Q rest (s.put d (.ep b u k jj.toNat 0))) (hx:aev s x=.hd b u:=by exact rfl) (hs:s.b[b]? = some ⟨u,.f e' k rows n cl⟩:=by exact rfl) (hy:aev s y=.sc (.int kk jj):=by exact rfl) (hT:tt[T]? = some i:=by exact rfl) (hk:i.kd=.sl e:=by exact rfl) (he:tt[e]? = some ie:=by exact rfl) (hsz:ie.size=k:=by exact rfl) (h0:0≤jj∧jj < rows.length:=by (exact PF0)):AP Tryz.prog X ops Q (⟨d,.indexAddr T x y,ty,pos,aft,none⟩ :: rest) s:=AP.pure rfl (pq_index_f rfl hx hs hy hT hk he hsz h0.1 h0.2) KK
theorem AP.F1 (KK:AP Tryz.prog X ops Q rest (s.put d av)) (hx:aev s x=.ep b u k n off:=by exact rfl) (hs:s.b[b]? = some ⟨u,.f e k rows n cl⟩:=by exact rfl) (hT:tt[T]? = some ti:=by exact rfl) (hk:rowK ti.kd=false:=by exact rfl) (hl:cl[off]? = some av:=by exact rfl):AP Tryz.prog X ops Q (⟨d,.load T x,ty,pos,aft,none⟩ :: rest) s:=AP.pure rfl (pq_load1_f rfl hx hs hT hk hl) KK
/-- a slice out of owned things -/
theorem AP.BO {parts:Array (Nat×Operand)} {z:List ZC} {fl fl':List AV} {b':List Sl} {q:List (List AV)} (KK:AP Tryz.prog X ops Q rest (AS.put ⟨s.t,(newS b' (.r e k q)).2⟩ d (.hd (newS b' (.r e k q)).1.1 (newS b' (.r e k q)).1.2))) (hT:tt[T]? = some i:=by exact rfl) (hk:i.kd=.sl e:=by exact rfl) (he:tt[e]? = some ie:=by exact rfl) (hz:ie.zero=some z:=by exact rfl) (hsz:ie.size=k:=by exact rfl)
 (h1:Nat.ble 1 k=true:=by exact rfl) (h2:Nat.ble (n * k) 1000000=true:=by exact rfl) (h3:parts.toList.all (fun p=>(aev s p.2).known && ((aev s p.2).cells.length == k) && Nat.ble (p.1 * k + k) (n * k))=true:=by exact rfl) (hfl:bldA s k parts.toList (zrow z n)=fl:=by exact rfl) (hcl:clsO 60 s.b fl=some (fl',b'):=by exact rfl) (hq:chunks k n fl'=q:=by exact rfl):AP Tryz.prog X ops Q (⟨d,.buildSlice T n parts,ty,pos,aft,none⟩ :: rest) s:=
 ap_buildSlice rfl rfl hT hk he hz hsz h1 h2 h3 hfl (clsO_of hcl) hq KK
end
/-! in drawn regions -/
section
variable {s:AS} {ops:Array Oper} {all:List Oper} {K:AS→Prop} {acc:List Fp} {l:List Oper} {av:AV} {op:Op} {ty:Nat} {pos:String} {aft:Array Edge} {g:Option (Nat×Bool)} {d:Nat} {T:List Nat} {F:List Nat} {b2:List Sl} {r:Bool}
theorem DW.RM (hk:DW Tryz.prog ops all K (⟨T,some d,F,false⟩ :: acc) l ⟨s.t.set d av,s.b⟩) (hg:gdS ops s g=some r:=by exact rfl) (hT:opTs ops ⟨some d,op,ty,pos,aft,g⟩=T:=by (simp only [ft,nm,Nat.reduceAdd,Nat.reduceBEq,List.getElem?_cons_zero,List.getElem?_cons_succ];exact rfl)) (hF:ftF 0 s op=F:=by (simp only [ft,nm,Nat.reduceAdd,Nat.reduceBEq,List.getElem?_cons_zero,List.getElem?_cons_succ];exact rfl)) (h:∀ X V,AP Tryz.prog X ops (fun e s'=>e=.normal∧s'=⟨(msT T 0 s.t).set d av,msB F V 0 s.b⟩) [⟨some d,op,ty,pos,aft,g⟩] ⟨msT T 0 s.t,msB F V 0 s.b⟩:=by (intro X V;simp only [ft,nm,Nat.reduceAdd,Nat.reduceBEq];(try (refine AP.Y ?_;dsimp only));(first|refine AP.LK ?_|refine AP.LN ?_|refine AP.LK2 ?_|refine AP.LN2 ?_|refine AP.FI ?_|refine AP.F1 ?_|refine AP.MZ ?_);(try refine NX ?_);refine AP.nil ?_;first|exact ⟨trivial,rfl⟩|exact ⟨rfl,rfl⟩)) (hy:nyF F 0 s.b=true:=by exact rfl) :
 DW Tryz.prog ops all K acc (⟨some d,op,ty,pos,aft,g⟩ :: l) s:=DW.rd 0 hT hF h hk hy
theorem DW.WM (hk:DW Tryz.prog ops all K (⟨T,some d,F,true⟩ :: acc) l ⟨s.t.set d av,b2⟩) (hg:gdS ops s g=some r:=by exact rfl) (hT:opTs ops ⟨some d,op,ty,pos,aft,g⟩=T:=by (simp only [ft,nm,Nat.reduceAdd,Nat.reduceBEq,List.getElem?_cons_zero,List.getElem?_cons_succ];exact rfl)) (hF:ftF 1 s op=F:=by (simp only [ft,nm,Nat.reduceAdd,Nat.reduceBEq,List.getElem?_cons_zero,List.getElem?_cons_succ];exact rfl)) (h:∀ X V,AP Tryz.prog X ops (fun e s'=>e=.normal∧s'.t=(msT T 0 s.t).set d av∧Mg F V 0 s.b s'.b b2) [⟨some d,op,ty,pos,aft,g⟩] ⟨msT T 0 s.t,msB F V 0 s.b⟩:=by (intro X V;simp only [ft,nm,Nat.reduceAdd,Nat.reduceBEq];(try (refine AP.Y ?_;dsimp only));(first|refine AP.MM ?_|refine AP.MD ?_|refine AP.BO ?_);(try refine NX ?_);refine AP.nil ?_;(first|refine ⟨trivial,rfl,?_⟩|refine ⟨rfl,rfl,?_⟩);(repeat' (first|exact Mg.nil|apply Mg.keep rfl|apply Mg.take rfl));all_goals fail))
 (hb:(∃ V:Nat→Nat,∃ b1,Mg F V 0 s.b b1 b2):=by (refine Exists.intro (fun _=>0) ?_;apply Exists.intro;(repeat' (first|exact Mg.nil|apply Mg.keep rfl|apply Mg.take rfl));all_goals fail)) (hy:nyF F 0 s.b=true:=by exact rfl) (hy2:nyF F 0 b2=true:=by exact rfl):DW Tryz.prog ops all K acc (⟨some d,op,ty,pos,aft,g⟩ :: l) s:=DW.st 1 hT hF h hb hk hy hy2
theorem DW.WM' (hk:DW Tryz.prog ops all K (⟨T,none,F,true⟩ :: acc) l ⟨s.t,b2⟩) (hg:gdS ops s g=some r:=by exact rfl) (hT:opTs ops ⟨none,op,ty,pos,aft,g⟩=T:=by (simp only [ft,nm,Nat.reduceAdd,Nat.reduceBEq,List.getElem?_cons_zero,List.getElem?_cons_succ];exact rfl)) (hF:ftF 1 s op=F:=by (simp only [ft,nm,Nat.reduceAdd,Nat.reduceBEq,List.getElem?_cons_zero,List.getElem?_cons_succ];exact rfl)) (h:∀ X V,AP Tryz.prog X ops (fun e s'=>e=.normal∧s'.t=msT T 0 s.t∧Mg F V 0 s.b s'.b b2) [⟨none,op,ty,pos,aft,g⟩] ⟨msT T 0 s.t,msB F V 0 s.b⟩:=by (intro X V;simp only [ft,nm,Nat.reduceAdd,Nat.reduceBEq];(try (refine AP.Y ?_;dsimp only));(first|refine AP.MN ?_|refine AP.MS ?_|refine AP.MD ?_);(try refine NX ?_);refine AP.nil ?_;(first|refine ⟨trivial,rfl,?_⟩|refine ⟨rfl,rfl,?_⟩);(repeat' (first|exact Mg.nil|apply Mg.keep rfl|apply Mg.take rfl));all_goals fail))
 (hb:(∃ V:Nat→Nat,∃ b1,Mg F V 0 s.b b1 b2):=by (refine Exists.intro (fun _=>0) ?_;apply Exists.intro;(repeat' (first|exact Mg.nil|apply Mg.keep rfl|apply Mg.take rfl));all_goals fail)) (hy:nyF F 0 s.b=true:=by exact rfl) (hy2:nyF F 0 b2=true:=by exact rfl):DW Tryz.prog ops all K acc (⟨none,op,ty,pos,aft,g⟩ :: l) s:=DW.stN 1 hT hF h hb hk hy hy2
end
theorem re_bytes {w:World} {φ:Fi} {κ:Ka} {R:Nat→Prop}:∀ l:List UInt8,RE w φ κ R 1 (l.map eB) (l.map fun b=>Value.int .u8 (b.toNat:Int)) Ct.z
 | []=>.nil
 | b :: l=>by
  have:=RE.cons (k:=1) (c:=eB b) (us:=[Value.int .u8 (b.toNat:Int)]) (S:=Ct.z) (T:=Ct.z) (U:=Ct.z) (.cons (S:=Ct.z) (T:=Ct.z) (.sc rfl) .nil fun _=>rfl) rfl ⟨fun u hu=>by simp at hu;subst hu;rfl,fun x hx=>by simp [eB] at hx;subst hx;rfl⟩ (re_bytes (w:=w) (φ:=φ) (κ:=κ) (R:=R) l) fun _=>rfl
  exact this
section
variable {X:Cx} {s:AS} {ops:Array Oper} {rest:List Oper} {o:Oper} {Q:Exit→AS→Prop}
theorem ap_convS {U T e:Nat} {x:Operand} {sb:ByteArray} {iu i ie:TI} (hg:o.guard=none) (ho:o.op=.convert U T x) (hx:aev s x=.sc (.string sb)) (hU:tt[U]? = some iu) (hku:iu.kd=.sr) (hT:tt[T]? = some i) (hk:i.kd=.sl e) (he:tt[e]? = some ie) (hke:ie.kd=.it .u8) (hn:sb.size≤1000000)
 (K:AP Tryz.prog X ops Q rest (AS.put ⟨s.t,(newS s.b (.r e 1 (sb.data.toList.map eB))).2⟩ o.dst (.hd (newS s.b (.r e 1 (sb.data.toList.map eB))).1.1 (newS s.b (.r e 1 (sb.data.toList.map eB))).1.2))):AP Tryz.prog X ops Q (o :: rest) s:=
 .run hg (fun X φ κ f a w h=>by
  have hx':=h.evc hx
  have hrun:(execOp a.eval o).run Tryz.prog w=.ok (.value (.slice (some ⟨w.heap.size,0,none⟩) sb.size (grownCap w sb.size 0 e))) (Lib.bytesWorld w e sb):=by
   simp only [execOp,ho,hx',Sem.run_bind,Lib.run_convert_string_bytes w U T e sb (ty_sr hU hku) (ty_sl hT hk) (ty_it he hke)];rfl
  have hge:=grownCap_ge w sb.size 0 e;have hcm:grownCap w sb.size 0 e≤maxLen:=grownCap_le_maxLen w sb.size 0 e (by unfold maxLen;omega)
  have hcs:(Lib.bytesCells w e sb).size=grownCap w sb.size 0 e:=by
   have:sb.data.size=sb.size:=rfl;simp [Lib.bytesCells];omega
  have hmk:Mk (Lib.bytesWorld w e sb) w.heap.size (Lib.bytesCells w e sb) e:=⟨_,Lib.bytesWorld_at_new w e sb,.inr (Nat.le_refl _)⟩;have hold:∀ x,x < w.heap.size→(Lib.bytesWorld w e sb).heap[x]? = w.heap[x]?:=fun x hx=>Lib.bytesWorld_at_old w e sb x hx
  have hlr:(sb.data.toList.map eB).length=sb.size:=by simp
  have htk:(Lib.bytesCells w e sb).toList.take ((sb.data.toList.map eB).length * 1)=sb.data.toList.map fun b=>Value.int .u8 (b.toNat:Int):=by
   rw [hlr,Nat.mul_one];have:sb.data.size=sb.size:=rfl;simp only [Lib.bytesCells,Array.toList_append,Array.toList_map];exact List.take_left' (by simp [this])
  generalize hW:Lib.bytesWorld w e sb=w' at *;have hos:w'.os=w.os:=by rw [←hW];rfl
  have htp:w'.tape=w.tape:=by rw [←hW];rfl
  have hou:w'.output=w.output:=by rw [←hW];rfl
  have hsz:w.heap.size < w'.heap.size:=by rw [←hW,Lib.bytesWorld_size];omega
  obtain ⟨φ',κ',f',e1,e2,e3,e4,e5⟩:=h.newS_ (w':=w') (B:=.r e 1 (sb.data.toList.map eB)) (g:=fun x=>(if x=w.heap.size then 1 else 0) + Ct.z x) (L':=Ct.z) none (some (.slice (some ⟨w.heap.size,0,none⟩) sb.size (grownCap w sb.size 0 e))) (by omega) hos htp hou
   (fun x hx _=>hold x hx)
   (fun φ' κ' j u a b c d=>.r d (by
     have:=RV.om (e:=e) (cap:=grownCap w sb.size 0 e) (cur:=Lib.bytesCells w e sb) (re_bytes (w:=w') (φ:=φ') (κ:=κ') (R:=X.R) sb.data.toList) hmk (by rw [hlr];exact hge) hcm (by rw [hcs,Nat.mul_one]) htk (T:=fun x=>(if x=w.heap.size then 1 else 0) + Ct.z x) fun _=>rfl
     rw [hlr] at this;exact this))
   (fun x hx=>by simp only [Ct.z];rw [if_neg (by omega)];omega)
   (fun x hx=>by simp only [Ct.z];split<;>simp_all)
  exact ⟨_,_,φ',κ',f',hrun,e5.puts o.dst (.hd e4 rfl)⟩) K
end
theorem AP.CS {X:Cx} {s:AS} {ops:Array Oper} {rest:List Oper} {Q:Exit→AS→Prop} {U T e:Nat} {x:Operand} {sb:ByteArray} {iu i ie:TI} {d:Option Nat} {ty:Nat} {pos:String} {aft:Array Edge}
 (K:AP Tryz.prog X ops Q rest (AS.put ⟨s.t,(newS s.b (.r e 1 (sb.data.toList.map eB))).2⟩ d (.hd (newS s.b (.r e 1 (sb.data.toList.map eB))).1.1 (newS s.b (.r e 1 (sb.data.toList.map eB))).1.2)))
 (hx:aev s x=.sc (.string sb):=by exact rfl) (hU:tt[U]? = some iu:=by exact rfl) (hku:iu.kd=.sr:=by exact rfl) (hT:tt[T]? = some i:=by exact rfl) (hk:i.kd=.sl e:=by exact rfl) (he:tt[e]? = some ie:=by exact rfl) (hke:ie.kd=.it .u8:=by exact rfl) (hn:sb.size≤1000000:=by omega) :
 AP Tryz.prog X ops Q (⟨d,.convert U T x,ty,pos,aft,none⟩ :: rest) s:=ap_convS rfl rfl hx hU hku hT hk he hke hn K
section
variable {v:Value} {k n b u o i:Nat} {r:List (List AV)} {α:Type} {l:List α}
theorem cr_sc:cRow (.sc v)=[.sc v]:=rfl
theorem cr_sl:cRow (.sl none k r)=[.sl none k r]:=rfl
theorem cr_bp:cRow (.bp b u o)=[.de]:=rfl
theorem cr_hd:cRow (.hd b u)=[.de]:=rfl
theorem ow_sc:oRow n (.sc v)=none:=rfl
theorem ow_sl:oRow n (.sl none k r)=none:=rfl
theorem ow_bp:oRow n (.bp b u o)=some (n,[.bp b u o]):=rfl
theorem ow_hd:oRow n (.hd b u)=some (n,[.hd b u]):=rfl
theorem cp_sc:(AV.sc v).cp=.sc v:=rfl
theorem cp_sl:(AV.sl none k r).cp=.sl none k r:=rfl
theorem cp_bp:(AV.bp b u o).cp=.bp b u o:=rfl
theorem dk_some:delK l (some n)=l.eraseIdx n:=rfl
theorem dk_none:delK l none=l:=rfl
end
theorem mx:type_of% (And.intro @cr_sc (And.intro @cr_sl (And.intro @cr_bp (And.intro @cr_hd (And.intro @ow_sc (And.intro @ow_sl (And.intro @ow_bp (And.intro @ow_hd (And.intro @cp_sc (And.intro @cp_sl (And.intro @cp_bp (And.intro @dk_some @dk_none)))))))))))):=And.intro @cr_sc (And.intro @cr_sl (And.intro @cr_bp (And.intro @cr_hd (And.intro @ow_sc (And.intro @ow_sl (And.intro @ow_bp (And.intro @ow_hd (And.intro @cp_sc (And.intro @cp_sl (And.intro @cp_bp (And.intro @dk_some @dk_none)))))))))))
theorem AP.ST {G G':Prop} (K:G') (h:G'→G:=by (intro k;first|exact AP.S k|exact AP.E k|exact AP.T k|exact AP.F0 k|exact AP.A k|exact AP.AB 0 k|exact AP.AB 1 k|exact AP.AL k|exact AP.LB k|exact AP.TB k|exact AP.IX k|exact AP.SF k|exact AP.SV k|exact AP.CV k|exact AP.CO k|exact AP.LK k|exact AP.LN k|exact AP.LK2 k|exact AP.LN2 k|exact AP.MM k|exact AP.MN k|exact AP.MS k|exact AP.MD k|exact AP.MZ k|exact AP.FI k|exact AP.F1 k|fail)):G:=h K
theorem DW.ST {G G':Prop} (K:G') (h:G'→G:=by (intro k;first|exact DW.R k|exact DW.R' k|exact DW.W k|exact DW.W' k|exact DW.RA k|exact DW.A 0 k|exact DW.A 1 k|exact DW.A 2 k|exact DW.RX k|exact DW.WX k|exact DW.WX' k|exact DW.RM k|exact DW.WM k|exact DW.WM' k|fail)):G:=h K
theorem nq:type_of% (And.intro @nx (And.intro @mx (And.intro @rn (And.intro @fq (And.intro @Nat.mul_one (And.intro @Bool.and_true (And.intro @Bool.and_false @BEq.rfl.{0}))))))):=And.intro @nx (And.intro @mx (And.intro @rn (And.intro @fq (And.intro @Nat.mul_one (And.intro @Bool.and_true (And.intro @Bool.and_false @BEq.rfl.{0}))))))
/-- what is no operation: one step -/
theorem CP.TL {G G':Prop} (K:G') (h:G'→G:=by (intro k;first
 | ((with_reducible apply AP.k_nil);first|exact AP.nil (hQ' _ k)|exact AP.nil k)
 | ((with_reducible apply CP.k_drw1);exact cp_drawX k)
 | ((with_reducible apply DW.k_nil);refine DW.nl ?_;first|exact hQ' _ k|exact k)
 | (with_reducible apply CP.k_reg1;exact cp_region k)
 | ((with_reducible apply CP.k_cond);first|exact cp_condT rfl k|exact cp_condF rfl k)
 | exact CP.go k)):G:=h K
theorem CP.TN {G G':Prop} (K:G') (h:G'→G:=by (intro k;first
 | ((with_reducible apply AP.k_nil);first|exact AP.nil (hQ' _ k)|exact AP.nil k)
 | ((with_reducible apply DW.k_nil);refine DW.nl ?_;first|exact hQ' _ k|exact k)
 | (with_reducible apply CP.k_reg1;exact cp_region k)
 | ((with_reducible apply CP.k_cond);first|exact cp_condT rfl k|exact cp_condF rfl k)
 | exact CP.go k)):G:=h K
/-- a contract over what may be read serves for what is owned: it is given up -/
theorem AC.own {P:Program} {fn:Nat} {args:List AV} {bs:List Bx} {Q:AV→List Bx→Prop} (h:AC P fn (roC args) bs Q):AC P fn args bs Q:=by
 refine ⟨h.1,fun w φ κ R vs gs Sa Sb hr hrx hφ hφn hκ hone hown hR=>?_⟩
 have h2:=h.2 w φ κ (fun b=>R b∨Sa b≠0) vs gs Ct.z Sb (RC.ro_ hr) (RXs.mono (fun _ h=>.inl h) hrx) hφ hφn hκ (fun x=>by have:=hone x;simp only [Ct.z];omega) (fun x hx=>hown x (by simp only [Ct.z] at hx;omega)) (fun x hx=>by
  rcases hx with hx|hx
  ·have:=hR x hx;simp only [Ct.z];exact ⟨this.1,by omega⟩
  ·have h1:=hone x;have:=hown x (by omega);simp only [Ct.z];exact ⟨this,by omega⟩)
 refine h2.mono ?_;rintro e w' ⟨v,r,bs',gs',Sr,Sb',φ',F,h1,h3,h4,h5,h6,h7,h8,h9,h10,h11⟩
 have hup:∀ x,((R x∨Sa x≠0)∨F x)→(R x∨(Sa x≠0∨F x)):=fun x hx=>by
  rcases hx with (hx|hx)|hx
  ·exact .inl hx
  ·exact .inr (.inl hx)
  ·exact .inr (.inr hx)
 refine ⟨v,r,bs',gs',Sr,Sb',φ',fun x=>Sa x≠0∨F x,h1,h3,RV.hist (fun _ _ _ h=>h) (fun _ _ _ h=>h) hup h4,RXs.mono hup h5,h6,h7,h8,fun x hx=>?_,fun x hx=>?_,⟨h11.os,h11.tape,h11.output,h11.size,fun b hb hS=>h11.block b hb (by simp only [Ct.z];omega)⟩⟩
 ·rcases hx with hx|hx|hx
  ·have:=h9 x (.inl hx);simp only [Ct.z] at this;exact ⟨this.1,by omega⟩
  ·have h12:=hown x (by omega);have h13:=h11.size;exact ⟨by omega,.inl (by omega)⟩
  ·have:=h9 x (.inr hx);simp only [Ct.z] at this;exact ⟨this.1,by omega⟩
 ·rcases hx with hx|hx
  ·have h12:=hown x (by omega);have h13:=hone x
   by_cases h14:Sr x + Sb' x=0
   ·exact h14
   ·have:=h9 x (.inl h14);simp only [Ct.z] at this;omega
  ·exact h10 x hx
section
variable {X:Cx} {s s':AS} {o:Oper} {Q:Exit→AS→Prop} {ops:Array Oper} {rest:List Oper}
theorem pq_fneqC {op:BinOp} {T T':TypeId} {x y:Operand} {fn:Nat} {cap:List AV} {r:Bool} (ho:o.op=.binOp op T x y T') (hx:aev s x=.fn fn cap) (hy:aev s y=.sc .nilFunc) (hr:nilB op false=some r) (hT:(match Tryz.prog.underlying T with|some (.func _ _ _)=>true | _=>false)=true):Pq Tryz.prog X s o (.sc (.bool r)):=.of_run fun X φ κ f a w h=>by
 have hv:=h.evs hx
 have hcv:∃ b c,a.eval x=.func (.func fn) b c:=by
  generalize a.eval x=v at hv
  cases hv with|fn h=>unfold fnV;split<;>exact ⟨_,_,rfl⟩
 obtain ⟨b,c,hcv⟩:=hcv;exact ⟨_,.sc rfl,fun w' _=>run_fneq hT ho hcv (.inr ⟨⟨_,_,_,rfl⟩,rfl⟩) (h.evc hy) hr w'⟩
theorem AP.FC {op:BinOp} {T T':TypeId} {x y:Operand} {fn:Nat} {cap:List AV} {r:Bool} (K:AP Tryz.prog X ops Q rest (s.put o.dst (.sc (.bool r)))) (hg:o.guard=none:=by exact rfl) (ho:o.op=.binOp op T x y T':=by exact rfl) (hx:aev s x=.fn fn cap:=by exact rfl) (hy:aev s y=.sc .nilFunc:=by exact rfl) (hr:nilB op false=some r:=by exact rfl)
 (hT:(match Tryz.prog.underlying T with|some (.func _ _ _)=>true | _=>false)=true:=by kernel_rfl):AP Tryz.prog X ops Q (o :: rest) s:=AP.pure hg (pq_fneqC ho hx hy hr hT) K
end
def dd:List Nat→List Nat→List Nat
 | [],acc=>acc
 | n :: l,acc=>match inN n acc with
  | true=>dd l acc
  | false=>dd l (n :: acc)
theorem dd_mem {i:Nat}:∀ {l acc:List Nat},i∈dd l acc↔i∈l∨i∈acc
 | [],acc=>by simp [dd]
 | n :: l,acc=>by
  unfold dd
  cases h:inN n acc with
  | true=>
   dsimp only;rw [dd_mem];have:=inN_mem.1 h;constructor
   ·rintro (h1|h1)
    ·exact .inl (List.mem_cons_of_mem _ h1)
    ·exact .inr h1
   ·rintro (h1|h1)
    ·rcases List.mem_cons.1 h1 with rfl|h1
     ·exact .inr this
     ·exact .inl h1
    ·exact .inr h1
  | false=>
   dsimp only;rw [dd_mem];constructor
   ·rintro (h1|h1)
    ·exact .inl (List.mem_cons_of_mem _ h1)
    ·rcases List.mem_cons.1 h1 with rfl|h1
     ·exact .inl (List.mem_cons_self ..)
     ·exact .inr h1
   ·rintro (h1|h1)
    ·rcases List.mem_cons.1 h1 with rfl|h1
     ·exact .inr (List.mem_cons_self ..)
     ·exact .inl h1
    ·exact .inr (List.mem_cons_of_mem _ h1)
def anc2:List Oper→List (List Nat)→List (List Nat)
 | [],acc=>acc
 | o :: l,acc=>anc2 l (acc ++ [dd ((depL o).flatMap fun d=>d :: acc.getD d []) []])
def sameM (A B:List (List Nat)):Prop:=A.length=B.length∧∀ k i,i∈A.getD k []↔i∈B.getD k []
theorem anc2_same:∀ {l:List Oper} {A B:List (List Nat)},sameM A B→sameM (anc2 l A) (ancs l B)
 | [],_,_,h=>h
 | o :: l,A,B,h=>by
  refine anc2_same (l:=l) ⟨by simp [h.1],fun k i=>?_⟩;simp only [List.getD_eq_getElem?_getD]
  by_cases hk:k < A.length
  ·rw [List.getElem?_append_left hk,List.getElem?_append_left (by rw [←h.1];exact hk)];have:=h.2 k i
   simpa only [List.getD_eq_getElem?_getD] using this
  ·rw [List.getElem?_append_right (by omega),List.getElem?_append_right (by rw [←h.1];omega),h.1]
   by_cases hz:k - B.length=0
   ·rw [hz]
    show i∈dd _ []↔i∈(depL o).flatMap fun d=>d :: B.getD d []
    rw [dd_mem];simp only [List.mem_flatMap,List.mem_cons,List.not_mem_nil,or_false,List.getD_eq_getElem?_getD];constructor
    ·rintro ⟨d,hd,h1|h1⟩
     ·exact ⟨d,hd,.inl h1⟩
     ·exact ⟨d,hd,.inr (by have:=(h.2 d i).1 (by rw [List.getD_eq_getElem?_getD];exact h1);rwa [List.getD_eq_getElem?_getD] at this)⟩
    ·rintro ⟨d,hd,h1|h1⟩
     ·exact ⟨d,hd,.inl h1⟩
     ·exact ⟨d,hd,.inr (by have:=(h.2 d i).2 (by rw [List.getD_eq_getElem?_getD];exact h1);rwa [List.getD_eq_getElem?_getD] at this)⟩
   ·obtain ⟨m,hm⟩:∃ m,k - B.length=m + 1:=⟨k - B.length - 1,by omega⟩;rw [hm];simp
theorem okRow_same {A B:List Nat} (h:∀ i,i∈A↔i∈B) (b:Fp):∀ (i:Nat) (l:List Fp),okRow A b i l=okRow B b i l
 | _,[]=>rfl
 | i,a :: l=>by
  have e:inN i A=inN i B:=by
   rw [Bool.eq_iff_iff,inN_mem,inN_mem];exact h i
  simp only [okRow,e,okRow_same h b (i + 1) l]
theorem okAll_same {A B:List (List Nat)} (h:sameM A B) (fs:List Fp):∀ (k:Nat) (l:List Fp),okAll A fs k l=okAll B fs k l
 | _,[]=>rfl
 | k,b :: l=>by
  simp only [okAll,okRow_same (h.2 k) b,okAll_same h fs (k + 1) l]
def okD2 (l:List Oper) (fs:List Fp):Bool:=okAll (anc2 l []) fs 0 fs
theorem okD2_of {l:List Oper} {fs:List Fp} (h:okD2 l fs=true):okD l fs=true:=by
 unfold okD2 at h;unfold okD;rw [←h];exact (okAll_same (anc2_same ⟨rfl,fun _ _=>Iff.rfl⟩) fs 0 fs).symm
theorem DW.nl2 {ops:Array Oper} {all:List Oper} {K:AS→Prop} {acc:List Fp} {s:AS} (hk:K s) (h:okD2 all acc.reverse=true:=by kernel_rfl):DW Tryz.prog ops all K acc [] s:=DW.nil (okD2_of h) hk
theorem CP.T2 {G G':Prop} (K:G') (h:G'→G:=by (intro k;first
 | ((with_reducible apply AP.k_nil);first|exact AP.nil (hQ' _ k)|exact AP.nil k)
 | ((with_reducible apply CP.k_drw1);exact cp_drawX k)
 | ((with_reducible apply DW.k_nil);refine DW.nl2 ?_;first|exact hQ' _ k|exact k)
 | (with_reducible apply CP.k_reg1;exact cp_region k)
 | ((with_reducible apply CP.k_cond);first|exact cp_condT rfl k|exact cp_condF rfl k)
 | exact CP.go k)):G:=h K
section
variable {X:Cx} {φ φ':Fi} {κ κ':Ka} {f:Nat→Ct} {L L':Ct} {s s':AS} {a:Act} {w w':World} {o:Oper} {ops:Array Oper} {rest:List Oper} {Q:Exit→AS→Prop}
theorem freeze_heap (w:World) (g n:Nat) (x:Nat) (hx:x≠g):(w.freeze ⟨g,n,none⟩ 1).heap[x]? = w.heap[x]?:=by
 unfold World.freeze;rw [if_neg (by decide)];simp [Array.getElem?_modify,Ne.symm hx]
theorem Mk.freeze {g:Nat} {cur:Array Value} {e:TypeId} (h:Mk w g cur e):Mk (w.freeze ⟨g,cur.size,none⟩ 1) g cur e:=by
 obtain ⟨z,h1,h2⟩:=h;refine ⟨if z.1 == z.2 then (cur.size,cur.size + 1) else (min z.1 cur.size,max z.2 (cur.size + 1)),?_,?_⟩
 ·unfold World.freeze;rw [if_neg (by decide)];simp [Array.getElem?_modify,h1]
 ·right;split
  ·exact Nat.le_refl _
  ·rename_i hz
   have:z.1≠z.2:=by simpa using hz
   show cur.size≤min z.1 cur.size
   have:=h2.resolve_left this;omega
/-- bytes, as bytes of the same type: a mark -/
theorem ap_convI {T e e' k j u:Nat} {x:Operand} {rows:List (List AV)} {i ie:TI} (hg:o.guard=none) (ho:o.op=.convert T T x) (hx:aev s x=.hd j u) (hs:s.b[j]? = some ⟨u,.r e k rows⟩) (hT:tt[T]? = some i) (hk:i.kd=.sl e') (he:tt[e']? = some ie) (hke:ie.kd=.it .u8) (hr:rows.isEmpty=false)
 (K:AP Tryz.prog X ops Q rest (s.put o.dst (.hd j u))):AP Tryz.prog X ops Q (o :: rest) s:=
 .run (s':=AS.put ⟨s.t,s.b.set j ⟨u,.r e k rows⟩⟩ o.dst (.hd j u)) hg (fun X φ κ f a w h=>by
  have h1:=h.evs hx;have h2:=h.sl j _ hs;have hjl:j < s.b.length:=(List.getElem?_eq_some_iff.1 hs).1;have hone:∀ x,f j x≤1:=fun x=>by have:=sumF_le f x _ j hjl;have:=h.one x;omega
  generalize hF:f j=F at h2;generalize hp:a.eval x=p at h1
  cases h1 with
  | hd hκ _=>
   cases h2 with
   | r hκ' hv=>
    rw [hκ] at hκ';injection hκ' with e0;subst e0
    cases hv with
    | ni=>simp at hr
    | ne=>simp at hr
    | @om _ _ _ g cap cur us S _ hre hmk hle hm hsz htk hS=>
     have hgl:=hmk.lt
     have hsh:w.shape? g=some (e,cur.size):=by
      obtain ⟨z,hz,_⟩:=hmk;unfold World.shape?;rw [hz]
     have hrun:(execOp a.eval o).run Tryz.prog w=.ok (.value (.slice (some ⟨g,0,none⟩) rows.length cap)) (w.freeze ⟨g,cur.size,none⟩ 1):=by
      have:(convert T T (.slice (some ⟨g,0,none⟩) rows.length cap)).run Tryz.prog w=.ok (.slice (some ⟨g,0,none⟩) rows.length cap) (w.freeze ⟨g,cur.size,none⟩ 1):=by
       simp [convert,run_underlying (ty_sl hT hk),run_underlying (ty_it he hke),markStringish,hsh]
      simp only [execOp,ho,hp,Sem.run_bind,this];rfl
     have hblk:∀ x,x≠g→(w.freeze ⟨g,cur.size,none⟩ 1).heap[x]? = w.heap[x]?:=fun x hx=>freeze_heap w g cur.size x hx
     have hsize:(w.freeze ⟨g,cur.size,none⟩ 1).heap.size=w.heap.size:=by unfold World.freeze;rw [if_neg (by decide)];simp
     have hR:∀ x,X.R x→(w.freeze ⟨g,cur.size,none⟩ 1).heap[x]? = w.heap[x]?:=fun x hx=>by
      have h3:=h.not_rd hx;have h4:=sumF_le f x _ j hjl;rw [hF] at h4;have h5:=hS x;exact hblk x (by rintro rfl;simp at h5;omega)
     have hSk:∀ x,S x≠0→(w.freeze ⟨g,cur.size,none⟩ 1).heap[x]? = w.heap[x]?:=fun x hx=>by
      have h5:=hS x;have h6:=hone x;rw [hF] at h6;exact hblk x (by rintro rfl;simp at h5;omega)
     have hv':=RV.om (e:=e) (RE.keep hR hre hSk) hmk.freeze hle hm hsz htk hS;refine ⟨_,_,φ,κ,_,hrun,SatW.puts (h.turn (w':=w.freeze ⟨g,cur.size,none⟩ 1) (B:=.r e k rows) (u:=u) (g:=F) (L':=Ct.z) hs (fun _ _ _ h=>h) (fun _ _ _ h=>h) (by rw [hsize];exact Nat.le_refl _) (by unfold World.freeze;rw [if_neg (by decide)]) (by unfold World.freeze;rw [if_neg (by decide)]) (by unfold World.freeze;rw [if_neg (by decide)]) ?_ (.r hκ hv') (fun x _=>by rw [hF];simp [Ct.z]) (fun x hx=>?_) (Nat.le_refl _) (fun _ _ _ h=>h) (fun _ _ _ h=>h)) o.dst ?_⟩
     ·intro x hx h0;rw [hF] at h0;have:=hS x;exact hblk x (by rintro rfl;simp at this;omega)
     ·have h8:F x=0:=by
       by_cases h8:F x=0
       ·exact h8
       ·have:=sumF_le f x _ j hjl;have:=h.own x (by rw [hF] at this;omega);omega
      simp only [Ct.z];exact ⟨by omega,fun h0=>by omega⟩
     ·exact .hd hκ rfl) (by
  have e1:s.b.set j ⟨u,.r e k rows⟩=s.b:=by
   apply List.ext_getElem?;intro i;rw [List.getElem?_set];split
   ·rename_i hi;subst hi
    rw [if_pos (List.getElem?_eq_some_iff.1 hs).1,hs]
   ·rfl
  rw [e1];exact K)
end
theorem AP.CI {X:Cx} {s:AS} {ops:Array Oper} {rest:List Oper} {Q:Exit→AS→Prop} {T e e' k j u:Nat} {x:Operand} {rows:List (List AV)} {i ie:TI} {d:Option Nat} {ty:Nat} {pos:String} {aft:Array Edge} (K:AP Tryz.prog X ops Q rest (s.put d (.hd j u))) (hx:aev s x=.hd j u:=by exact rfl) (hs:s.b[j]? = some ⟨u,.r e k rows⟩:=by exact rfl) (hT:tt[T]? = some i:=by exact rfl) (hk:i.kd=.sl e':=by exact rfl) (he:tt[e']? = some ie:=by exact rfl) (hke:ie.kd=.it .u8:=by exact rfl) (hr:rows.isEmpty=false:=by exact rfl):AP Tryz.prog X ops Q (⟨d,.convert T T x,ty,pos,aft,none⟩ :: rest) s:=ap_convI rfl rfl hx hs hT hk he hke hr K
section
variable {s:AS} {ops:Array Oper} {all:List Oper} {K:AS→Prop} {acc:List Fp} {l:List Oper} {av:AV} {op:Op} {ty:Nat} {pos:String} {aft:Array Edge} {g:Option (Nat×Bool)} {d:Nat} {T:List Nat} {F:List Nat} {b2:List Sl} {r:Bool}
end
structure Hid (A:Prop):Prop where
 un:A
theorem GV {G G':Prop} (K:G') (h:G'→G:=by (intro k;(with_reducible apply AP.k_any);exact AP.V k)):G:=h K
theorem wA1 {G G':Prop} (K:G') (h:G'→G:=by (intro kz;(with_reducible apply AP.k_any);first|exact AP.ST kz|(refine AP.Y ?_;dsimp only;exact kz))):G:=h K
theorem GA {G A B:Prop} (K:A∧B) (h:A∧B→G:=by (intro k;(with_reducible apply AP.k_any);exact AP.G k.1 k.2)):G:=h K
theorem wD3 {G G':Prop} (K:G') (h:G'→G:=by (intro kz;(with_reducible apply DW.k_any);exact DW.ST kz)):G:=h K
theorem wT1 {G G':Prop} (K:G') (h:G'→G:=by (intro kz;first|((with_reducible apply AP.k_nil);first|exact AP.nil (hQ' _ kz)|exact AP.nil kz)|((with_reducible apply CP.k_drw);exact cp_drwX kz)|((with_reducible apply CP.k_drw1);exact cp_drawX kz)|((with_reducible apply DW.k_nil);refine DW.nl2 ?_;first|exact hQ' _ kz|exact kz)|((with_reducible apply CP.k_reg);exact cp_regG kz)|exact CP.W kz)):G:=h K
theorem GC {G A B:Prop} (K:A∧B) (h:A∧B→G:=by (intro k;(with_reducible apply CP.k_cond);exact cp_cond rfl k.1 k.2)):G:=h K
theorem la:type_of% (And.intro @List.append_eq.{0} (And.intro @List.cons_append.{0} @List.nil_append.{0})):=And.intro @List.append_eq.{0} (And.intro @List.cons_append.{0} @List.nil_append.{0})
/-- a walk that comes to one end -/
theorem W1 {G A:Prop} (a:A) (h:Hid A→G:=by
 (intro kk
  repeat' (first|((first|refine wA1 ?_|(refine GA ?_;refine ⟨fun hg=>?_,fun hg=>?_⟩)|(refine GV ?_;intro c hnil;simp only [nz])|refine wD3 ?_)<;>(first|simp only [sm,nx,mx,rn,fq,List.length_map,Nat.mul_one,Bool.and_true,Bool.and_false,Nat.reduceBEq,Nat.reduceAdd,Nat.reduceSub,BEq.rfl]|simp only [nx,mx,rn,fq,List.length_map,Nat.mul_one,Bool.and_true,Bool.and_false,Nat.reduceBEq,Nat.reduceAdd,Nat.reduceSub,BEq.rfl]|skip))|refine wT1 ?_|with_reducible intro Q' hQ'|(refine GC ?_;refine ⟨fun hc=>?_,fun hc=>?_⟩)|simp only [la])
  exact kk.un)):G:=h ⟨a⟩
theorem CP.SL {G' G:Prop} (K:G') (h:G'→G:=by (intro k;refine CP.gh gh_slot ?_;refine NX ?_;exact k)):G:=h K
section
variable {X:Cx} {s:AS} {ops:Array Oper} {rest:List Oper} {o:Oper} {Q:Exit→AS→Prop}
theorem ap_trunc {T e k b u h:Nat} {x hi:Operand} {s1:List (List AV)} {i ie:TI} (hg:o.guard=none) (ho:o.op=.slice T x none (some hi) none) (hx:aev s x=.hd b u) (hs:s.b[b]? = some ⟨u,.r e k s1⟩) (hT:tt[T]? = some i) (hk:i.kd=.sl e) (he:tt[e]? = some ie)
 (hhi:Bd s (some hi) 0 h) (hle:h≤s1.length) (K:AP Tryz.prog X ops Q rest (AS.put ⟨s.t,s.b.set b ⟨u + 1,.r e k (s1.take h)⟩⟩ o.dst (.hd b (u + 1)))):AP Tryz.prog X ops Q (o :: rest) s:=
 .run hg (fun X φ κ f a w h0=>by
  have hv:=h0.hdv hx hs;obtain ⟨A,c,hA,hc1,hc2,hc3⟩:=hv.sl_form;rw [hA] at hv
  have hi':∃ k,(some hi).map a.eval=some (.int k h):=by
   cases hhi with
   | int hx=>exact ⟨_,by rw [Option.map_some,h0.evc hx]⟩
   | lit hx hz=>subst hz;exact ⟨_,by rw [Option.map_some,h0.evc hx]⟩
  have hb:=fun w=>run_bounds (n:=s1.length) (c:=c) (l:=0) (h:=h) (m:=c) (lo:=none) (hi:=(some hi).map a.eval) (mx:=none) (.inl ⟨rfl,rfl⟩) (.inr hi') (.inl ⟨rfl,rfl⟩) (Nat.zero_le _) (by omega) (Nat.le_refl _) w
  have hrun:(execOp a.eval o).run Tryz.prog w=.ok (.value (.slice A h c)) w:=by
   have:=run_slice (A:=A) (n:=s1.length) (c:=c) (l:=0) (h:=h) (m:=c) (lo:=none) (hi:=(some hi).map a.eval) (mx:=none) hT hk he hb w
   have e:(if c=0 then A else A.map (·.add (0 * ie.size)))=A:=by
    split
    ·rfl
    ·cases A<;>simp [Addr.add]
   rw [e] at this;simp only [execOp,ho,hA,Option.map_none,Sem.run_bind,this];rfl
  have hcut:∃ S',(∀ φ' κ',RV w φ' κ' X.R (.sl (some e) k (s1.take h)) (.slice A h c) S')∧∀ x,S' x≤f b x:=by
   have hlt:(s1.take h).length=h:=by rw [List.length_take];omega
   generalize f b=F at hv;generalize hnn:s1.length=nn at hv hc1
   cases hv with
   | ni=>exact ⟨Ct.z,fun φ' κ'=>by (have e0:h=0:=by simp at hle;omega);subst e0;exact .ni,fun _=>Nat.zero_le _⟩
   | ne=>exact ⟨Ct.z,fun φ' κ'=>by (have e0:h=0:=by simp at hle;omega);subst e0;exact .ne,fun _=>Nat.zero_le _⟩
   | @om _ _ _ g cap cur us S _ hre hh hle2 hm hsz' htk hSx=>
    obtain ⟨S1,S2,h1,h2,h3⟩:=hre.split hle;refine ⟨fun x=>(if x=g then 1 else 0) + S1 x,fun φ' κ'=>?_,fun x=>by (try dsimp only);rw [hSx,h3];omega⟩
    have:=RV.om (φ:=φ') (κ:=κ') (e:=e) (cap:=c) (cur:=cur) (RE.any φ' κ' h1) hh (by omega) hm hsz' (by
     rw [hlt,←htk,List.take_take,Nat.min_eq_left (Nat.mul_le_mul_right _ hle)]) (fun x=>rfl)
    rw [hlt] at this;exact this
  obtain ⟨S',hcv,hcS⟩:=hcut;obtain ⟨_,ht⟩:=h0.take hs .x fun _ _=>.x
  have hbl:b < s.b.length:=(List.getElem?_eq_some_iff.1 hs).1;have hbx:(s.b.set b ⟨u,.x⟩)[b]? = some ⟨u,.x⟩:=List.getElem?_set_self hbl
  obtain ⟨φ',κ',f',e1,e2,e3,e4,e5⟩:=ht.newAt (w':=w) (B:=.r e k (s1.take h)) (g:=S') (L':=Ct.z) hbx none (some (.slice A h c)) (Nat.le_refl _) rfl rfl rfl (fun _ _ _=>rfl)
   (fun φ' κ' _ _ _ d=>.r d (hcv φ' κ')) (fun x _=>by have:=hcS x;simp only [Ct.z];omega) (fun x hx=>by
     have h1:=hcS x;have h2:=ht.own x;have h3:=ht.one x;dsimp only at h2 h3;simp only [Ct.z] at h2 h3 ⊢;exact ⟨by omega,fun h4=>(h2 (by omega)).1⟩)
  rw [List.set_set] at e5;exact ⟨_,_,φ',κ',f',hrun,e5.puts o.dst (.hd e4 rfl)⟩) K
end
abbrev tM:TypeId:=73
abbrev tE:TypeId:=75
structure Member where
 node:Int
 since:Int
 whole:Bool
structure Config where
 epoch:Int
 members:List Member
structure Entry where
 pos:Int
 stamp:Int
 client:Int
 id:Int
 body:List UInt8
abbrev eM (m:Member):List AV:=[I m.node,I m.since,B m.whole]
abbrev ms (o:Option TypeId) (l:List Member):AV:=.sl o 3 (l.map eM)
abbrev eC (o:Option TypeId) (c:Config):List AV:=[I c.epoch,ms o c.members]
abbrev eE (o:Option TypeId) (e:Entry):List AV:=[I e.pos,I e.stamp,I e.client,I e.id,bs o e.body]
abbrev es (o q:Option TypeId) (l:List Entry):AV:=.sl o 5 (l.map (eE q))
theorem ro_M (l:List Member):roE (l.map eM)=l.map eM:=by rw [roE_map];rfl
theorem ro_E (q:Option TypeId) (l:List Entry):roE (l.map (eE q))=l.map (eE none):=by
 rw [roE_map];refine List.map_congr_left fun x _=>?_
 simp only [eE,roC,AV.ro,ro_B]
abbrev tMsg:TypeId:=39
structure Msg where
 kind:UInt8
 client:Int
 id:Int
 body:List UInt8
 upto:Int
 frm:Int
 entries:List Entry
 have_:Int
 done:Int
 cfg:Config
 since:Int
abbrev eG (m:Msg):List AV:=[U m.kind,I m.client,I m.id,bs none m.body,I m.upto,I m.frm,es none none m.entries,I m.have_,I m.done,I m.cfg.epoch,ms none m.cfg.members,I m.since]
abbrev fnv (f:Nat):AV:=.sc (.func (.func f) #[] #[])
def Msg.small (m:Msg):Prop:=m.body.length≤100000000∧m.entries.length≤100000000∧m.cfg.members.length≤100000000∧∀ e∈m.entries,e.body.length≤100000000
def cfg0:Config:=⟨0,[]⟩
def msg0:Msg:=⟨0,0,0,[],0,0,[],0,0,cfg0,0⟩
structure Ga where
 kind:Int
 client:Int
 body:List UInt8
 frm:Int
 epoch:Int
 m:Msg
abbrev eGa (a:Ga):List AV:=[I a.kind,I a.client,bs none a.body,I a.frm,I a.epoch,U a.m.kind,I a.m.client,I a.m.id,bs none a.m.body,I a.m.upto,I a.m.frm,es none none a.m.entries,I a.m.have_,I a.m.done,I a.m.cfg.epoch,ms none a.m.cfg.members,I a.m.since]
abbrev gaS (l:List Ga):AV:=.sl none 17 (l.map eGa)
structure Ga.small (a:Ga):Prop where
 b:a.body.length≤10000000
 mb:a.m.body.length≤10000000
 me:a.m.entries.length≤10000000
 mm:a.m.cfg.members.length≤10000000
 e:∀ e∈a.m.entries,e.body.length≤10000000
def waE:List Entry→Nat
 | []=>0
 | e :: l=>e.body.length + 50 + waE l
theorem waE_le (l:List Entry) (h:∀ e∈l,e.body.length≤10000000):waE l≤10000050 * l.length:=by
 induction l with
 | nil=>simp [waE]
 | cons e l ih=>
  have:=h e (by simp);have:=ih fun e he=>h e (by simp [he])
  simp only [waE,List.length_cons];omega
theorem waE_app (l:List Entry) (e:Entry):waE (l ++ [e])=waE l + e.body.length + 50:=by
 induction l with
 | nil=>simp [waE]
 | cons x l ih=>simp only [List.cons_append,waE,ih];omega
def waG (a:Ga):Nat:=100 + a.body.length + a.m.body.length + 20 * a.m.cfg.members.length + waE a.m.entries
def waS:List Ga→Nat
 | []=>0
 | a :: l=>waG a + waS l
theorem waS_app (l m:List Ga):waS (l ++ m)=waS l + waS m:=by
 induction l with
 | nil=>simp [waS]
 | cons x l ih=>simp only [List.cons_append,waS,ih];omega
theorem waS_take (l:List Ga) (k:Nat):waS (l.take k)≤waS l:=by
 have:=waS_app (l.take k) (l.drop k);rw [List.take_append_drop] at this;omega
theorem waS_mem {l:List Ga} {a:Ga} (h:a∈l):waG a≤waS l:=by
 induction l with
 | nil=>cases h
 | cons x l ih=>
  rcases List.mem_cons.1 h with rfl|h
  ·simp only [waS];omega
  ·have:=ih h;simp only [waS];omega
theorem waS_len (l:List Ga):100 * l.length≤waS l:=by
 induction l with
 | nil=>simp [waS]
 | cons x l ih=>simp only [waS,List.length_cons,waG];omega
theorem waE_mem {l:List Entry} {e:Entry} (h:e∈l):e.body.length≤waE l:=by
 induction l with
 | nil=>cases h
 | cons x l ih=>
  rcases List.mem_cons.1 h with rfl|h
  ·simp only [waE];omega
  ·have:=ih h;simp only [waE];omega
theorem waE_len (l:List Entry):50 * l.length≤waE l:=by
 induction l with
 | nil=>simp [waE]
 | cons x l ih=>simp only [waE,List.length_cons];omega
def great27 (l:List Ga):Bool:=decide (8000 < waS l)
theorem wA2 {G G':Prop} (K:G') (h:G'→G:=by (intro kz;(with_reducible apply AP.k_any);exact AP.PF kz)):G:=h K
theorem NQ {G G':Prop} (K:G') (h:G'→G:=by (intro k;simp only [nq,Nat.reduceBEq,Nat.reduceAdd,Nat.reduceSub];exact k)):G:=h K
theorem wT2 {G G':Prop} (K:G') (h:G'→G:=by (intro kz;first|exact CP.TL kz|((with_reducible apply CP.k_drw);exact cp_drwX kz)|((with_reducible apply CP.k_reg);exact cp_regG kz))):G:=h K
theorem great27_ac (l:List Ga) (hl:l.length≤100000000) (hs:∀ a∈l,a.small):AC Tryz.prog 7 [gaS l] [] (fun v bs'=>v=B (great27 l)∧bs'=[]):=by
 refine AC.N Tryz.func7 Tryz.ntmps7 ?_;intro X hρ hmks;refine NX ?_
 repeat' (first|((first|refine wA1 ?_|(refine GA ?_;refine ⟨fun hg=>?_,fun hg=>?_⟩)|(refine GV ?_;intro c hnil;simp only [nz])|refine wA2 ?_|refine wD3 ?_)<;>(try refine NQ ?_))|refine wT2 ?_|with_reducible intro Q' hQ'|(refine GC ?_;refine ⟨fun hc=>?_,fun hc=>?_⟩)|simp only [la])
 refine cp_loopS [2,3,4,5,6,7,8,9,10,11,12,13,14,15,16,17,18,19,20,21,22,23,24,25,26,27,28,29,30,31,32,33,34,35,36,37,38,39,40,41,42,43,44,45,46,47,48,49,50,51,52,53,54,55,56,57,58,59,60,61,62,63,64,65] (fun k:Nat=>l.length - k) (fun k=>k≤l.length∧waS (l.take k)≤8000) (fun k=>[(4,I k),(3,I (waS (l.take k)))]) (fun _=>[]) 0 ⟨Nat.zero_le _,Nat.zero_le _⟩ (by exact Gh.W) ?_;rintro k ⟨hk,hw⟩;simp only [setT,deT,setB,List.set_cons_succ,List.set_cons_zero]
 by_cases hlt:k < l.length
 ·have q1:decide ((k:Int) < (l.length:Int))=true:=by simp;omega
  have q2:IntKind.i64.wrap ((k:Int) + 1)=((k + 1:Nat):Int):=wrap_i64 (by omega) (by omega);have hA:(l.map eGa)[k]? = some (eGa l[k]):=by rw [List.getElem?_map,List.getElem?_eq_getElem hlt];rfl
  have hsm:=hs _ (List.getElem_mem hlt)
  have hst:waS (l.take (k + 1))=waS (l.take k) + waG l[k]:=by
   rw [List.take_succ_eq_append_getElem hlt,waS_app];simp [waS]
  have hle:=waS_take l (k + 1);generalize l[k]=a at *;obtain ⟨h1,h2,h3,h4,h5⟩:=hsm;obtain ⟨W,hW⟩:∃ W,W=waS (l.take k):=⟨_,rfl⟩;rw [←hW] at hst hw ⊢;obtain ⟨T,hT⟩:∃ T,T=W + (100 + a.body.length + a.m.body.length + 20 * a.m.cfg.members.length):=⟨_,rfl⟩
  have e0:IntKind.i64.wrap (IntKind.i64.wrap (IntKind.i64.wrap (IntKind.i64.wrap ((W:Int) + 100) + (a.body.length:Int)) + (a.m.body.length:Int)) + IntKind.i64.wrap (20 * (a.m.cfg.members.length:Int)))=(T:Int):=by
   rw [wrap_i64 (x:=(W:Int) + 100) (by omega) (by omega),wrap_i64 (x:=(W:Int) + 100 + (a.body.length:Int)) (by omega) (by omega),wrap_i64 (x:=(W:Int) + 100 + (a.body.length:Int) + (a.m.body.length:Int)) (by omega) (by omega),wrap_i64 (x:=20 * (a.m.cfg.members.length:Int)) (by omega) (by omega),wrap_i64 (by omega) (by omega)];omega
  have hTw:W + waG a=T + waE a.m.entries:=by rw [hT];unfold waG;omega
  repeat' (first|((first|refine wA1 ?_|(refine GA ?_;refine ⟨fun hg=>?_,fun hg=>?_⟩)|(refine GV ?_;intro c hnil;simp only [nz])|refine wA2 ?_|refine wD3 ?_)<;>(try simp only [q1,q2,e0,nq,Nat.reduceBEq,Nat.reduceAdd,Nat.reduceSub]))|refine wT2 ?_|with_reducible intro Q' hQ'|(refine GC ?_;refine ⟨fun hc=>?_,fun hc=>?_⟩)|simp only [la])
  refine cp_loopS [3,5,39,40,41,42,43,44,45,46,47,48,49,50,51,52,53,54,55,56,57,58,59,60,61,62,63] (fun j:Nat=>a.m.entries.length - j) (fun j=>j≤a.m.entries.length) (fun j=>[(5,I j),(3,I ((T + waE (a.m.entries.take j):Nat):Int))]) (fun _=>[]) 0 (Nat.zero_le _) (by (simp only [List.take_zero,waE,Nat.add_zero];exact Gh.W)) ?_;intro j hj;simp only [setT,deT,setB,List.set_cons_succ,List.set_cons_zero]
  by_cases hjl:j < a.m.entries.length
  ·have r1:decide ((j:Int) < (a.m.entries.length:Int))=true:=by simp;omega
   have r2:IntKind.i64.wrap ((j:Int) + 1)=((j + 1:Nat):Int):=wrap_i64 (by omega) (by omega);have hbe:=h5 _ (List.getElem_mem hjl);have hst:=waE_le (a.m.entries.take j) (fun e he=>h5 e (List.mem_of_mem_take he));rw [List.length_take] at hst
   have hn:IntKind.i64.wrap (IntKind.i64.wrap (((T + waE (a.m.entries.take j):Nat):Int) + ((a.m.entries[j]).body.length:Int)) + 50)=((T + waE (a.m.entries.take (j + 1)):Nat):Int):=by
    rw [List.take_succ_eq_append_getElem hjl,waE_app,wrap_i64 (x:=((T + waE (a.m.entries.take j):Nat):Int) + _) (by omega) (by omega),wrap_i64 (by omega) (by omega)];omega
   have hE:(a.m.entries.map (eE none))[j]? = some (eE none a.m.entries[j]):=by rw [List.getElem?_map,List.getElem?_eq_getElem hjl];rfl
   generalize a.m.entries[j]=en at *
   repeat' (first|((first|refine wA1 ?_|(refine GA ?_;refine ⟨fun hg=>?_,fun hg=>?_⟩)|(refine GV ?_;intro c hnil;simp only [nz])|refine wA2 ?_|refine wD3 ?_)<;>(try simp only [r1,r2,hn,nq,Nat.reduceBEq,Nat.reduceAdd,Nat.reduceSub]))|refine wT2 ?_|with_reducible intro Q' hQ'|(refine GC ?_;refine ⟨fun hc=>?_,fun hc=>?_⟩)|simp only [la])
   exact ⟨j + 1,by omega,by omega,by exact Gh.W⟩
  ·obtain rfl:j=a.m.entries.length:=by omega
   have r1:decide ((a.m.entries.length:Int) < (a.m.entries.length:Int))=false:=by simp
   have hwE:=waE_le a.m.entries h5;rw [List.take_length];rw [←hTw,←hst]
   by_cases hg:8000 < waS (l.take (k + 1))
   ·have r3:decide ((8000:Int) < ((waS (l.take (k + 1)):Nat):Int))=true:=by simp;omega
    have hg2:great27 l=true:=by unfold great27;rw [decide_eq_true_eq];omega
    rw [hg2]
    repeat' (first|((first|refine wA1 ?_|(refine GA ?_;refine ⟨fun hg=>?_,fun hg=>?_⟩)|(refine GV ?_;intro c hnil;simp only [nz])|refine wA2 ?_|refine wD3 ?_)<;>(try simp only [r1,r3,nq,Nat.reduceBEq,Nat.reduceAdd,Nat.reduceSub]))|refine wT2 ?_|with_reducible intro Q' hQ'|(refine GC ?_;refine ⟨fun hc=>?_,fun hc=>?_⟩)|simp only [la])
    (exact RetQ.A [] (by exact ⟨rfl,rfl⟩))
   ·have r3:decide ((8000:Int) < ((waS (l.take (k + 1)):Nat):Int))=false:=by simp;omega
    repeat' (first|((first|refine wA1 ?_|(refine GA ?_;refine ⟨fun hg=>?_,fun hg=>?_⟩)|(refine GV ?_;intro c hnil;simp only [nz])|refine wA2 ?_|refine wD3 ?_)<;>(try simp only [r1,r3,q2,nq,Nat.reduceBEq,Nat.reduceAdd,Nat.reduceSub]))|refine wT2 ?_|with_reducible intro Q' hQ'|(refine GC ?_;refine ⟨fun hc=>?_,fun hc=>?_⟩)|simp only [la])
    exact ⟨k + 1,by omega,⟨by omega,by omega⟩,by exact Gh.W⟩
 ·obtain rfl:k=l.length:=by omega
  have q1:decide ((l.length:Int) < (l.length:Int))=false:=by simp
  rw [List.take_length] at hw;have hg2:great27 l=false:=by unfold great27;rw [decide_eq_false_iff_not];omega
  rw [hg2]
  repeat' (first|((first|refine wA1 ?_|(refine GA ?_;refine ⟨fun hg=>?_,fun hg=>?_⟩)|(refine GV ?_;intro c hnil;simp only [nz])|refine wA2 ?_|refine wD3 ?_)<;>(try simp only [q1,nq,Nat.reduceBEq,Nat.reduceAdd,Nat.reduceSub]))|refine wT2 ?_|with_reducible intro Q' hQ'|(refine GC ?_;refine ⟨fun hc=>?_,fun hc=>?_⟩)|simp only [la])
  (exact RetQ.A [] (by exact ⟨rfl,rfl⟩))
section
variable {X:Cx} {s:AS} {ops:Array Oper} {rest:List Oper} {Q:Exit→AS→Prop} {d:Option Nat} {ty:Nat} {pos:String} {aft:Array Edge} {T n e k:Nat} {i ie:TI}
theorem AP.BP {parts:Array (Nat×Operand)} {z:List ZC} {fl fl':List AV} {b':List Sl} {q:List (List AV)} (KK:AP Tryz.prog X ops Q rest (AS.put ⟨s.t,(newS b' (.r e k q)).2⟩ d (.hd (newS b' (.r e k q)).1.1 (newS b' (.r e k q)).1.2))) (hT:tt[T]? = some i:=by exact rfl) (hk:i.kd=.sl e:=by exact rfl) (he:tt[e]? = some ie:=by exact rfl) (hz:ie.zero=some z:=by exact rfl) (hsz:ie.size=k:=by exact rfl)
 (h1:Nat.ble 1 k=true:=by exact rfl) (h2:Nat.ble (n * k) 1000000=true:=by exact rfl) (h3:parts.toList.all (fun p=>(aev s p.2).known && ((aev s p.2).cells.length == k) && Nat.ble (p.1 * k + k) (n * k))=true:=by exact rfl) (hfl:bldA s k parts.toList (zrow z n)=fl:=by exact rfl) (hcl:ClsC s.b fl fl' b':=by ((repeat' (first|exact ClsC.nil|apply ClsC.nl|apply ClsC.leaf rfl|apply ClsC.hd rfl|apply ClsC.ob rfl|apply ClsC.mo rfl|apply ClsC.mp rfl|apply ClsC.hp rfl|exact Out.nil|apply Out.cons rfl|apply Out.r rfl|apply Out.f rfl|apply ClsC.fn|apply ClsC.fz rfl (ro_B _)|apply ClsC.fz rfl (ro_M _)|apply ClsC.fz rfl (ro_E _ _)|apply ClsC.fz rfl rfl));all_goals fail)) (hq:chunks k n fl'=q:=by exact rfl):AP Tryz.prog X ops Q (⟨d,.buildSlice T n parts,ty,pos,aft,none⟩ :: rest) s:=
 ap_buildSlice rfl rfl hT hk he hz hsz h1 h2 h3 hfl hcl hq KK
end
structure Wn where
 boot:Int
 top:Int
 came:Nat→Bool
abbrev c64 (c:Nat→Bool):List AV:=[B (c 0),B (c 1),B (c 2),B (c 3),B (c 4),B (c 5),B (c 6),B (c 7),B (c 8),B (c 9),B (c 10),B (c 11),B (c 12),B (c 13),B (c 14),B (c 15),B (c 16),B (c 17),B (c 18),B (c 19),B (c 20),B (c 21),B (c 22),B (c 23),B (c 24),B (c 25),B (c 26),B (c 27),B (c 28),B (c 29),B (c 30),B (c 31),B (c 32),B (c 33),B (c 34),B (c 35),B (c 36),B (c 37),B (c 38),B (c 39),B (c 40),B (c 41),B (c 42),B (c 43),B (c 44),B (c 45),B (c 46),B (c 47),B (c 48),B (c 49),B (c 50),B (c 51),B (c 52),B (c 53),B (c 54),B (c 55),B (c 56),B (c 57),B (c 58),B (c 59),B (c 60),B (c 61),B (c 62),B (c 63)]
abbrev wC (w:Wn):List AV:=B true :: I w.boot :: I w.top :: c64 w.came
abbrev tWn:TypeId:=241
abbrev wnX (w:Wn):Bx:=.c tWn (wC w)
def Wn.new:Wn:=⟨-1,0,fun _=>false⟩
def upd (c:Nat→Bool) (k:Nat) (v:Bool):Nat→Bool:=fun j=>if j=k then v else c j
theorem c64_eq (c:Nat→Bool):c64 c=(List.range 64).map fun j=>B (c j):=rfl
theorem c64_at (c:Nat→Bool) {k:Nat} (h:k < 64):(c64 c)[k]? = some (B (c k)):=by
 rw [c64_eq,List.getElem?_map,List.getElem?_range h];rfl
theorem c64_set (c:Nat→Bool) (k:Nat) (v:Bool):(c64 c).set k (B v)=c64 (upd c k v):=by
 rw [c64_eq,c64_eq];apply List.ext_getElem?;intro i;rw [List.getElem?_set];simp only [List.length_map,List.length_range,List.getElem?_map]
 by_cases hi:i < 64
 ·rw [List.getElem?_range hi]
  by_cases hk:k=i
  ·subst hk;simp [upd,hi]
  ·simp [upd,hk,Ne.symm hk]
 ·rw [List.getElem?_eq_none (by simpa using hi)];split
  ·rename_i hk;subst hk;simp [hi]
  ·rfl
theorem wC_at (w:Wn) {k:Nat} (h:k < 64):(wC w)[3 + k]? = some (B (w.came k)):=by
 rw [Nat.add_comm];exact c64_at w.came h
theorem wC_set (b t:Int) (c:Nat→Bool) (k:Nat) (v:Bool):(B true :: I b :: I t :: c64 c).set (3 + k) (B v)=B true :: I b :: I t :: c64 (upd c k v):=by
 rw [Nat.add_comm];exact congrArg (fun l=>B true :: I b :: I t :: l) (c64_set c k v)
theorem wT3 {G G':Prop} (K:G') (h:G'→G:=by (intro kz;first|exact CP.TL kz|((with_reducible apply CP.k_reg);exact cp_regG kz))):G:=h K
theorem wnew18_ac:AC Tryz.prog 107 [] [] (fun v bs'=>v=.bp 0 0 0∧bs'=[wnX Wn.new]):=by
 refine AC.N Tryz.func107 Tryz.ntmps107 ?_;intro X hρ hmks;refine NX ?_
 repeat' (first|((first|refine wA1 ?_|(refine GA ?_;refine ⟨fun hg=>?_,fun hg=>?_⟩)|(refine GV ?_;intro c hnil;simp only [nz])|refine wA2 ?_)<;>(try refine NQ ?_))|refine wT3 ?_|with_reducible intro Q' hQ'|(refine GC ?_;refine ⟨fun hc=>?_,fun hc=>?_⟩)|simp only [la])
 (exact RetQ.A [(0,1)] (by exact ⟨rfl,rfl⟩))
theorem wnone18_ac (w:Wn):AC Tryz.prog 175 [.bp 0 0 0] [wnX w] (fun v bs'=>v=B false∧bs'=[wnX w]):=by
 refine AC.N Tryz.func175 Tryz.ntmps175 ?_;intro X hρ hmks;refine NX ?_
 repeat' (first|((first|refine wA1 ?_|(refine GA ?_;refine ⟨fun hg=>?_,fun hg=>?_⟩)|(refine GV ?_;intro c hnil;simp only [nz])|refine wA2 ?_)<;>(try refine NQ ?_))|refine wT3 ?_|with_reducible intro Q' hQ'|(refine GC ?_;refine ⟨fun hc=>?_,fun hc=>?_⟩)|simp only [la])
 (exact RetQ.A [(0,0)] (by exact ⟨rfl,rfl⟩))
def res64 (n:Int):Nat:=(n % 64).toNat
theorem res64_lt (n:Int):res64 n < 64:=by unfold res64;omega
theorem res64_tmod {n:Int} (h:0≤n):n.tmod 64=(res64 n:Int):=by
 unfold res64;rw [Int.tmod_eq_emod_of_nonneg h];omega
def Wn.up (w:Wn):Wn:=⟨w.boot,w.top + 1,upd w.came (res64 (w.top + 1)) false⟩
def Wn.ups:Nat→Wn→Wn
 | 0,w=>w
 | k + 1,w=>(Wn.ups k w).up
theorem Wn.ups_top (w:Wn):∀ k,(w.ups k).top=w.top + k
 | 0=>by simp [Wn.ups]
 | k + 1=>by simp [Wn.ups,Wn.up,Wn.ups_top w k];omega
theorem Wn.ups_boot (w:Wn):∀ k,(w.ups k).boot=w.boot
 | 0=>rfl
 | k + 1=>by simp [Wn.ups,Wn.up,Wn.ups_boot w k]
def Wn.base (w:Wn) (boot:Int):Wn:=if w.boot < boot then ⟨boot,0,fun _=>false⟩ else w
def Wn.far (x:Wn) (n:Int):Wn:=if x.top≤n - 64 then ⟨x.boot,n,fun _=>false⟩ else x
def Wn.mark (x:Wn) (n:Int):Wn:=⟨x.boot,x.top,upd x.came (res64 n) true⟩
def Wn.old (x:Wn) (n:Int):Bool:=decide (n≤x.top - 64) || (decide (n≤x.top) && x.came (res64 n))
def Wn.go (x:Wn) (n:Int):Wn:=((x.far n).ups (n - (x.far n).top).toNat).mark n
def Wn.after (w:Wn) (boot n:Int):Wn:=if boot < w.boot∨n < 1 then w else if (w.base boot).old n=true then w else (w.base boot).go n
/-- in range -/
def Wn.ok (w:Wn):Prop:=0≤w.top∧w.top≤9223372036854775807
theorem after_no (w:Wn) (boot n:Int) (h:boot < w.boot∨n < 1):AC Tryz.prog 176 [.ag (wC w),I boot,I n] [] (fun v bs'=>v=.ag (wC (w.after boot n))∧bs'=[]):=by
 have e:w.after boot n=w:=if_pos h;rw [e];rcases h with h|h
 ·have d1:decide (boot < w.boot)=true:=by simp;omega
  refine AC.N Tryz.func176 Tryz.ntmps176 ?_;intro X hρ hmks;refine NX ?_
  repeat' (first|((first|refine wA1 ?_|(refine GA ?_;refine ⟨fun hg=>?_,fun hg=>?_⟩)|(refine GV ?_;intro c hnil;simp only [nz])|refine wA2 ?_)<;>(try simp only [d1,nq,Nat.reduceBEq,Nat.reduceAdd,Nat.reduceSub]))|refine wT3 ?_|with_reducible intro Q' hQ'|(refine GC ?_;refine ⟨fun hc=>?_,fun hc=>?_⟩)|simp only [la])
  (exact RetQ.A [] (by exact ⟨rfl,rfl⟩))
 ·by_cases h1:boot < w.boot
  ·have d1:decide (boot < w.boot)=true:=by simp;omega
   refine AC.N Tryz.func176 Tryz.ntmps176 ?_;intro X hρ hmks;refine NX ?_
   repeat' (first|((first|refine wA1 ?_|(refine GA ?_;refine ⟨fun hg=>?_,fun hg=>?_⟩)|(refine GV ?_;intro c hnil;simp only [nz])|refine wA2 ?_)<;>(try simp only [d1,nq,Nat.reduceBEq,Nat.reduceAdd,Nat.reduceSub]))|refine wT3 ?_|with_reducible intro Q' hQ'|(refine GC ?_;refine ⟨fun hc=>?_,fun hc=>?_⟩)|simp only [la])
   (exact RetQ.A [] (by exact ⟨rfl,rfl⟩))
  ·have d1:decide (boot < w.boot)=false:=by simp;omega
   have d2:decide (n < 1)=true:=by simp;omega
   refine AC.N Tryz.func176 Tryz.ntmps176 ?_;intro X hρ hmks;refine NX ?_
   repeat' (first|((first|refine wA1 ?_|(refine GA ?_;refine ⟨fun hg=>?_,fun hg=>?_⟩)|(refine GV ?_;intro c hnil;simp only [nz])|refine wA2 ?_)<;>(try simp only [d1,d2,nq,Nat.reduceBEq,Nat.reduceAdd,Nat.reduceSub]))|refine wT3 ?_|with_reducible intro Q' hQ'|(refine GC ?_;refine ⟨fun hc=>?_,fun hc=>?_⟩)|simp only [la])
   (exact RetQ.A [] (by exact ⟨rfl,rfl⟩))
theorem after_old (w:Wn) (boot n:Int) (hb:boot=w.boot) (h1:1≤n) (hn:n≤9223372036854775807) (ht:w.ok) (h:w.old n=true):AC Tryz.prog 176 [.ag (wC w),I boot,I n] [] (fun v bs'=>v=.ag (wC (w.after boot n))∧bs'=[]):=by
 have e:w.after boot n=w:=by
  unfold Wn.after;rw [if_neg (by omega)];have:w.base boot=w:=if_neg (by omega);rw [this,if_pos h]
 rw [e];obtain ⟨ht1,ht2⟩:=ht;have d1:decide (boot < w.boot)=false:=by simp;omega
 have d2:decide (n < 1)=false:=by simp;omega
 have d3:decide (w.boot < boot)=false:=by simp;omega
 have hw1:IntKind.i64.wrap (w.top - 64)=w.top - 64:=wrap_i64 (by omega) (by omega);have hm:=res64_tmod (n:=n) (by omega);have hk:=res64_lt n;have hat:=wC_at w hk;unfold Wn.old at h;generalize res64 n=k at *;generalize w.came k=v at *
 by_cases h4:n≤w.top - 64
 ·have d4:decide (n≤w.top - 64)=true:=by simp;omega
  refine AC.N Tryz.func176 Tryz.ntmps176 ?_;intro X hρ hmks;refine NX ?_
  repeat' (first|((first|refine wA1 ?_|(refine GA ?_;refine ⟨fun hg=>?_,fun hg=>?_⟩)|(refine GV ?_;intro c hnil;simp only [nz])|refine wA2 ?_)<;>(try simp only [d1,d2,d3,d4,hw1,nq,Nat.reduceBEq,Nat.reduceAdd,Nat.reduceSub]))|refine wT3 ?_|with_reducible intro Q' hQ'|(refine GC ?_;refine ⟨fun hc=>?_,fun hc=>?_⟩)|simp only [la])
  (exact RetQ.A [] (by exact ⟨rfl,rfl⟩))
 ·have d4:decide (n≤w.top - 64)=false:=by simp;omega
  rw [d4] at h;simp only [Bool.false_or,Bool.and_eq_true,decide_eq_true_eq] at h;have d5:decide (n≤w.top)=true:=by simp;omega
  obtain ⟨_,rfl⟩:=h;refine AC.N Tryz.func176 Tryz.ntmps176 ?_;intro X hρ hmks;refine NX ?_
  repeat' (first|((first|refine wA1 ?_|(refine GA ?_;refine ⟨fun hg=>?_,fun hg=>?_⟩)|(refine GV ?_;intro c hnil;simp only [nz])|refine wA2 ?_)<;>(try simp only [d1,d2,d3,d4,d5,hw1,hm,nq,Nat.reduceBEq,Nat.reduceAdd,Nat.reduceSub]))|refine wT3 ?_|with_reducible intro Q' hQ'|(refine GC ?_;refine ⟨fun hc=>?_,fun hc=>?_⟩)|simp only [la])
  (exact RetQ.A [] (by exact ⟨rfl,rfl⟩))
theorem after_near (w:Wn) (boot n:Int) (hb:boot=w.boot) (h1:1≤n) (hn:n≤9223372036854775807) (ht:w.ok) (h:w.old n=false) (hf:¬ w.top≤n - 64):AC Tryz.prog 176 [.ag (wC w),I boot,I n] [] (fun v bs'=>v=.ag (wC (w.after boot n))∧bs'=[]):=by
 have e:w.after boot n=(w.ups (n - w.top).toNat).mark n:=by
  unfold Wn.after;rw [if_neg (by omega)];have e1:w.base boot=w:=if_neg (by omega);have e2:w.far n=w:=if_neg hf;rw [e1,if_neg (by rw [h];simp)];unfold Wn.go;rw [e2]
 rw [e];obtain ⟨ht1,ht2⟩:=ht;have d1:decide (boot < w.boot)=false:=by simp;omega
 have d2:decide (n < 1)=false:=by simp;omega
 have d3:decide (w.boot < boot)=false:=by simp;omega
 have d7:decide (w.top≤n - 64)=false:=by simp;omega
 have hw1:IntKind.i64.wrap (w.top - 64)=w.top - 64:=wrap_i64 (by omega) (by omega);have hw2:IntKind.i64.wrap (n - 64)=n - 64:=wrap_i64 (by omega) (by omega);have hm:=res64_tmod (n:=n) (by omega);have hk:=res64_lt n;have hat:=wC_at w hk;unfold Wn.old at h;simp only [Bool.or_eq_false_iff,Bool.and_eq_false_iff,decide_eq_false_iff_not] at h;obtain ⟨h4,h5⟩:=h;have d4:decide (n≤w.top - 64)=false:=by simp;omega
 unfold Wn.mark;generalize res64 n=k at *;generalize w.came k=v at *
 by_cases hl:n≤w.top
 ·have d5:decide (n≤w.top)=true:=by simp;omega
  have hv:v=false:=h5.resolve_left (by omega);subst hv;refine AC.N Tryz.func176 Tryz.ntmps176 ?_;intro X hρ hmks;refine NX ?_
  repeat' (first|((first|refine wA1 ?_|(refine GA ?_;refine ⟨fun hg=>?_,fun hg=>?_⟩)|(refine GV ?_;intro c hnil;simp only [nz])|refine wA2 ?_)<;>(try simp only [d1,d2,d3,d4,d5,d7,hw1,hw2,hm,nq,Nat.reduceBEq,Nat.reduceAdd,Nat.reduceSub]))|refine wT3 ?_|with_reducible intro Q' hQ'|(refine GC ?_;refine ⟨fun hc=>?_,fun hc=>?_⟩)|simp only [la])
  refine cp_loopS [54,55,56,57,58,59,60,61,62,63,64,65,66] (fun a:Nat=>(n - w.top).toNat - a) (fun a=>a≤(n - w.top).toNat) (fun a=>[]) (fun a=>[(2,⟨1,wnX (w.ups a)⟩)]) 0 (Nat.zero_le _) (by exact Gh.W) ?_;intro a ha;simp only [setT,deT,setB,List.set_cons_succ,List.set_cons_zero];have hut:(w.ups a).top=w.top + a:=Wn.ups_top w a;have hub:=Wn.ups_boot w a
  by_cases hlt:a < (n - w.top).toNat
  ·have e2:w.ups (a + 1)=(w.ups a).up:=rfl;generalize w.ups a=y at *;have q1:decide (y.top < n)=true:=by simp;omega
   have q2:IntKind.i64.wrap (y.top + 1)=y.top + 1:=wrap_i64 (by omega) (by omega);have q3:=res64_tmod (n:=y.top + 1) (by omega);have q4:=res64_lt (y.top + 1);have q5:=wC_set y.boot (y.top + 1) y.came (res64 (y.top + 1)) false;unfold Wn.up at e2;generalize res64 (y.top + 1)=r at *
   repeat' (first|((first|refine wA1 ?_|(refine GA ?_;refine ⟨fun hg=>?_,fun hg=>?_⟩)|(refine GV ?_;intro c hnil;simp only [nz])|refine wA2 ?_)<;>(try simp only [q1,q2,q3,q5,Int.toNat_natCast,nq,Nat.reduceBEq,Nat.reduceAdd,Nat.reduceSub]))|refine wT3 ?_|with_reducible intro Q' hQ'|(refine GC ?_;refine ⟨fun hc=>?_,fun hc=>?_⟩)|simp only [la])
   exact ⟨a + 1,by omega,by omega,by (rw [e2];exact Gh.W)⟩
  ·obtain rfl:a=(n - w.top).toNat:=by omega
   generalize w.ups (n - w.top).toNat=y at *;have q1:decide (y.top < n)=false:=by simp;omega
   have q5:=wC_set y.boot y.top y.came k true
   repeat' (first|((first|refine wA1 ?_|(refine GA ?_;refine ⟨fun hg=>?_,fun hg=>?_⟩)|(refine GV ?_;intro c hnil;simp only [nz])|refine wA2 ?_)<;>(try simp only [q1,hm,q5,Int.toNat_natCast,nq,Nat.reduceBEq,Nat.reduceAdd,Nat.reduceSub]))|refine wT3 ?_|with_reducible intro Q' hQ'|(refine GC ?_;refine ⟨fun hc=>?_,fun hc=>?_⟩)|simp only [la])
   (exact RetQ.A [] (by exact ⟨rfl,rfl⟩))
 ·have d5:decide (n≤w.top)=false:=by simp;omega
  refine AC.N Tryz.func176 Tryz.ntmps176 ?_;intro X hρ hmks;refine NX ?_
  repeat' (first|((first|refine wA1 ?_|(refine GA ?_;refine ⟨fun hg=>?_,fun hg=>?_⟩)|(refine GV ?_;intro c hnil;simp only [nz])|refine wA2 ?_)<;>(try simp only [d1,d2,d3,d4,d5,d7,hw1,hw2,hm,nq,Nat.reduceBEq,Nat.reduceAdd,Nat.reduceSub]))|refine wT3 ?_|with_reducible intro Q' hQ'|(refine GC ?_;refine ⟨fun hc=>?_,fun hc=>?_⟩)|simp only [la])
  refine cp_loopS [54,55,56,57,58,59,60,61,62,63,64,65,66] (fun a:Nat=>(n - w.top).toNat - a) (fun a=>a≤(n - w.top).toNat) (fun a=>[]) (fun a=>[(2,⟨1,wnX (w.ups a)⟩)]) 0 (Nat.zero_le _) (by exact Gh.W) ?_;intro a ha;simp only [setT,deT,setB,List.set_cons_succ,List.set_cons_zero];have hut:(w.ups a).top=w.top + a:=Wn.ups_top w a;have hub:=Wn.ups_boot w a
  by_cases hlt:a < (n - w.top).toNat
  ·have e2:w.ups (a + 1)=(w.ups a).up:=rfl;generalize w.ups a=y at *;have q1:decide (y.top < n)=true:=by simp;omega
   have q2:IntKind.i64.wrap (y.top + 1)=y.top + 1:=wrap_i64 (by omega) (by omega);have q3:=res64_tmod (n:=y.top + 1) (by omega);have q4:=res64_lt (y.top + 1);have q5:=wC_set y.boot (y.top + 1) y.came (res64 (y.top + 1)) false;unfold Wn.up at e2;generalize res64 (y.top + 1)=r at *
   repeat' (first|((first|refine wA1 ?_|(refine GA ?_;refine ⟨fun hg=>?_,fun hg=>?_⟩)|(refine GV ?_;intro c hnil;simp only [nz])|refine wA2 ?_)<;>(try simp only [q1,q2,q3,q5,Int.toNat_natCast,nq,Nat.reduceBEq,Nat.reduceAdd,Nat.reduceSub]))|refine wT3 ?_|with_reducible intro Q' hQ'|(refine GC ?_;refine ⟨fun hc=>?_,fun hc=>?_⟩)|simp only [la])
   exact ⟨a + 1,by omega,by omega,by (rw [e2];exact Gh.W)⟩
  ·obtain rfl:a=(n - w.top).toNat:=by omega
   generalize w.ups (n - w.top).toNat=y at *;have q1:decide (y.top < n)=false:=by simp;omega
   have q5:=wC_set y.boot y.top y.came k true
   repeat' (first|((first|refine wA1 ?_|(refine GA ?_;refine ⟨fun hg=>?_,fun hg=>?_⟩)|(refine GV ?_;intro c hnil;simp only [nz])|refine wA2 ?_)<;>(try simp only [q1,hm,q5,Int.toNat_natCast,nq,Nat.reduceBEq,Nat.reduceAdd,Nat.reduceSub]))|refine wT3 ?_|with_reducible intro Q' hQ'|(refine GC ?_;refine ⟨fun hc=>?_,fun hc=>?_⟩)|simp only [la])
   (exact RetQ.A [] (by exact ⟨rfl,rfl⟩))
theorem after_far (w:Wn) (boot n:Int) (hb:boot=w.boot) (h1:1≤n) (hn:n≤9223372036854775807) (ht:w.ok) (hf:w.top≤n - 64):AC Tryz.prog 176 [.ag (wC w),I boot,I n] [] (fun v bs'=>v=.ag (wC (w.after boot n))∧bs'=[]):=by
 have e:w.after boot n=((⟨w.boot,n,fun _=>false⟩:Wn).ups (n - n).toNat).mark n:=by
  unfold Wn.after;rw [if_neg (by omega)];have e1:w.base boot=w:=if_neg (by omega);have e2:w.far n=⟨w.boot,n,fun _=>false⟩:=if_pos hf
  have h:w.old n=false:=by
   unfold Wn.old;simp only [Bool.or_eq_false_iff,Bool.and_eq_false_iff,decide_eq_false_iff_not];obtain ⟨ht1,ht2⟩:=ht;exact ⟨by omega,.inl (by omega)⟩
  rw [e1,if_neg (by rw [h];simp)];unfold Wn.go;rw [e2]
 rw [e];obtain ⟨ht1,ht2⟩:=ht;have d1:decide (boot < w.boot)=false:=by simp;omega
 have d2:decide (n < 1)=false:=by simp;omega
 have d3:decide (w.boot < boot)=false:=by simp;omega
 have d7:decide (w.top≤n - 64)=true:=by simp;omega
 have hw1:IntKind.i64.wrap (w.top - 64)=w.top - 64:=wrap_i64 (by omega) (by omega);have hw2:IntKind.i64.wrap (n - 64)=n - 64:=wrap_i64 (by omega) (by omega);have hm:=res64_tmod (n:=n) (by omega);have hk:=res64_lt n;have d4:decide (n≤w.top - 64)=false:=by simp;omega
 have d5:decide (n≤w.top)=false:=by simp;omega
 unfold Wn.mark;generalize res64 n=k at *;refine AC.N Tryz.func176 Tryz.ntmps176 ?_;intro X hρ hmks;refine NX ?_
 repeat' (first|((first|refine wA1 ?_|(refine GA ?_;refine ⟨fun hg=>?_,fun hg=>?_⟩)|(refine GV ?_;intro c hnil;simp only [nz])|refine wA2 ?_)<;>(try simp only [d1,d2,d3,d4,d5,d7,hw1,hw2,hm,nq,Nat.reduceBEq,Nat.reduceAdd,Nat.reduceSub]))|refine wT3 ?_|with_reducible intro Q' hQ'|(refine GC ?_;refine ⟨fun hc=>?_,fun hc=>?_⟩)|simp only [la])
 refine cp_loopS [54,55,56,57,58,59,60,61,62,63,64,65,66] (fun a:Nat=>(n - n).toNat - a) (fun a=>a≤(n - n).toNat) (fun a=>[]) (fun a=>[(2,⟨1,wnX ((⟨w.boot,n,fun _=>false⟩:Wn).ups a)⟩)]) 0 (Nat.zero_le _) (by exact Gh.W) ?_;intro a ha;simp only [setT,deT,setB,List.set_cons_succ,List.set_cons_zero];have hut:((⟨w.boot,n,fun _=>false⟩:Wn).ups a).top=n + a:=Wn.ups_top (⟨w.boot,n,fun _=>false⟩:Wn) a;have hub:=Wn.ups_boot (⟨w.boot,n,fun _=>false⟩:Wn) a
 by_cases hlt:a < (n - n).toNat
 ·have e2:(⟨w.boot,n,fun _=>false⟩:Wn).ups (a + 1)=((⟨w.boot,n,fun _=>false⟩:Wn).ups a).up:=rfl;generalize (⟨w.boot,n,fun _=>false⟩:Wn).ups a=y at *;have q1:decide (y.top < n)=true:=by simp;omega
  have q2:IntKind.i64.wrap (y.top + 1)=y.top + 1:=wrap_i64 (by omega) (by omega);have q3:=res64_tmod (n:=y.top + 1) (by omega);have q4:=res64_lt (y.top + 1);have q5:=wC_set y.boot (y.top + 1) y.came (res64 (y.top + 1)) false;unfold Wn.up at e2;generalize res64 (y.top + 1)=r at *
  repeat' (first|((first|refine wA1 ?_|(refine GA ?_;refine ⟨fun hg=>?_,fun hg=>?_⟩)|(refine GV ?_;intro c hnil;simp only [nz])|refine wA2 ?_)<;>(try simp only [q1,q2,q3,q5,Int.toNat_natCast,nq,Nat.reduceBEq,Nat.reduceAdd,Nat.reduceSub]))|refine wT3 ?_|with_reducible intro Q' hQ'|(refine GC ?_;refine ⟨fun hc=>?_,fun hc=>?_⟩)|simp only [la])
  exact ⟨a + 1,by omega,by omega,by (rw [e2];exact Gh.W)⟩
 ·obtain rfl:a=(n - n).toNat:=by omega
  generalize (⟨w.boot,n,fun _=>false⟩:Wn).ups (n - n).toNat=y at *;have q1:decide (y.top < n)=false:=by simp;omega
  have q5:=wC_set y.boot y.top y.came k true
  repeat' (first|((first|refine wA1 ?_|(refine GA ?_;refine ⟨fun hg=>?_,fun hg=>?_⟩)|(refine GV ?_;intro c hnil;simp only [nz])|refine wA2 ?_)<;>(try simp only [q1,hm,q5,Int.toNat_natCast,nq,Nat.reduceBEq,Nat.reduceAdd,Nat.reduceSub]))|refine wT3 ?_|with_reducible intro Q' hQ'|(refine GC ?_;refine ⟨fun hc=>?_,fun hc=>?_⟩)|simp only [la])
  (exact RetQ.A [] (by exact ⟨rfl,rfl⟩))
theorem base_new {w:Wn} {boot n:Int} (hb:w.boot < boot) (h1:1≤n):w.after boot n=(⟨boot,0,fun _=>false⟩:Wn).go n:=by
 unfold Wn.after;rw [if_neg (by omega)];have e1:w.base boot=⟨boot,0,fun _=>false⟩:=if_pos hb
 have h:(⟨boot,0,fun _=>false⟩:Wn).old n=false:=by
  unfold Wn.old;simp only [Bool.or_eq_false_iff,Bool.and_eq_false_iff,decide_eq_false_iff_not];exact ⟨by omega,.inr trivial⟩
 rw [e1,if_neg (by rw [h];simp)]
theorem new_near (w:Wn) (boot n:Int) (hb:w.boot < boot) (h1:1≤n) (hn:n≤9223372036854775807) (ht:w.ok) (hf:n < 64):AC Tryz.prog 176 [.ag (wC w),I boot,I n] [] (fun v bs'=>v=.ag (wC (w.after boot n))∧bs'=[]):=by
 have e:w.after boot n=((⟨boot,0,fun _=>false⟩:Wn).ups (n - 0).toNat).mark n:=by
  rw [base_new hb h1];unfold Wn.go;have e2:(⟨boot,0,fun _=>false⟩:Wn).far n=⟨boot,0,fun _=>false⟩:=if_neg (by dsimp only;omega);rw [e2]
 have d7:decide (0≤n - 64)=false:=by simp;omega
 rw [e];obtain ⟨ht1,ht2⟩:=ht;have d1:decide (boot < w.boot)=false:=by simp;omega
 have d2:decide (n < 1)=false:=by simp;omega
 have d3:decide (w.boot < boot)=true:=by simp;omega
 have hw1:IntKind.i64.wrap (0 - 64) = -64:=wrap_i64 (by omega) (by omega);have hw2:IntKind.i64.wrap (n - 64)=n - 64:=wrap_i64 (by omega) (by omega);have hm:=res64_tmod (n:=n) (by omega);have hk:=res64_lt n;have d4:decide (n ≤ -64)=false:=by simp;omega
 have d5:decide (n≤0)=false:=by simp;omega
 unfold Wn.mark;generalize res64 n=k at *;refine AC.N Tryz.func176 Tryz.ntmps176 ?_;intro X hρ hmks;refine NX ?_
 repeat' (first|((first|refine wA1 ?_|(refine GA ?_;refine ⟨fun hg=>?_,fun hg=>?_⟩)|(refine GV ?_;intro c hnil;simp only [nz])|refine wA2 ?_)<;>(try simp only [d1,d2,d3,d4,d5,d7,hw1,hw2,hm,nq,Nat.reduceBEq,Nat.reduceAdd,Nat.reduceSub]))|refine wT3 ?_|with_reducible intro Q' hQ'|(refine GC ?_;refine ⟨fun hc=>?_,fun hc=>?_⟩)|simp only [la])
 refine cp_loopS [54,55,56,57,58,59,60,61,62,63,64,65,66] (fun a:Nat=>(n - 0).toNat - a) (fun a=>a≤(n - 0).toNat) (fun a=>[]) (fun a=>[(2,⟨1,wnX ((⟨boot,0,fun _=>false⟩:Wn).ups a)⟩)]) 0 (Nat.zero_le _) (by exact Gh.W) ?_;intro a ha;simp only [setT,deT,setB,List.set_cons_succ,List.set_cons_zero];have hut:((⟨boot,0,fun _=>false⟩:Wn).ups a).top=0 + a:=Wn.ups_top (⟨boot,0,fun _=>false⟩:Wn) a;have hub:=Wn.ups_boot (⟨boot,0,fun _=>false⟩:Wn) a
 by_cases hlt:a < (n - 0).toNat
 ·have e2:(⟨boot,0,fun _=>false⟩:Wn).ups (a + 1)=((⟨boot,0,fun _=>false⟩:Wn).ups a).up:=rfl;generalize (⟨boot,0,fun _=>false⟩:Wn).ups a=y at *;have q1:decide (y.top < n)=true:=by simp;omega
  have q2:IntKind.i64.wrap (y.top + 1)=y.top + 1:=wrap_i64 (by omega) (by omega);have q3:=res64_tmod (n:=y.top + 1) (by omega);have q4:=res64_lt (y.top + 1);have q5:=wC_set y.boot (y.top + 1) y.came (res64 (y.top + 1)) false;unfold Wn.up at e2;generalize res64 (y.top + 1)=r at *
  repeat' (first|((first|refine wA1 ?_|(refine GA ?_;refine ⟨fun hg=>?_,fun hg=>?_⟩)|(refine GV ?_;intro c hnil;simp only [nz])|refine wA2 ?_)<;>(try simp only [q1,q2,q3,q5,Int.toNat_natCast,nq,Nat.reduceBEq,Nat.reduceAdd,Nat.reduceSub]))|refine wT3 ?_|with_reducible intro Q' hQ'|(refine GC ?_;refine ⟨fun hc=>?_,fun hc=>?_⟩)|simp only [la])
  exact ⟨a + 1,by omega,by omega,by (rw [e2];exact Gh.W)⟩
 ·obtain rfl:a=(n - 0).toNat:=by omega
  generalize (⟨boot,0,fun _=>false⟩:Wn).ups (n - 0).toNat=y at *;have q1:decide (y.top < n)=false:=by simp;omega
  have q5:=wC_set y.boot y.top y.came k true
  repeat' (first|((first|refine wA1 ?_|(refine GA ?_;refine ⟨fun hg=>?_,fun hg=>?_⟩)|(refine GV ?_;intro c hnil;simp only [nz])|refine wA2 ?_)<;>(try simp only [q1,hm,q5,Int.toNat_natCast,nq,Nat.reduceBEq,Nat.reduceAdd,Nat.reduceSub]))|refine wT3 ?_|with_reducible intro Q' hQ'|(refine GC ?_;refine ⟨fun hc=>?_,fun hc=>?_⟩)|simp only [la])
  (exact RetQ.A [] (by exact ⟨rfl,rfl⟩))
theorem new_far (w:Wn) (boot n:Int) (hb:w.boot < boot) (h1:1≤n) (hn:n≤9223372036854775807) (ht:w.ok) (hf:¬ n < 64):AC Tryz.prog 176 [.ag (wC w),I boot,I n] [] (fun v bs'=>v=.ag (wC (w.after boot n))∧bs'=[]):=by
 have e:w.after boot n=((⟨boot,n,fun _=>false⟩:Wn).ups (n - n).toNat).mark n:=by
  rw [base_new hb h1];unfold Wn.go;have e2:(⟨boot,0,fun _=>false⟩:Wn).far n=⟨boot,n,fun _=>false⟩:=if_pos (by dsimp only;omega);rw [e2]
 have d7:decide (0≤n - 64)=true:=by simp;omega
 rw [e];obtain ⟨ht1,ht2⟩:=ht;have d1:decide (boot < w.boot)=false:=by simp;omega
 have d2:decide (n < 1)=false:=by simp;omega
 have d3:decide (w.boot < boot)=true:=by simp;omega
 have hw1:IntKind.i64.wrap (0 - 64) = -64:=wrap_i64 (by omega) (by omega);have hw2:IntKind.i64.wrap (n - 64)=n - 64:=wrap_i64 (by omega) (by omega);have hm:=res64_tmod (n:=n) (by omega);have hk:=res64_lt n;have d4:decide (n ≤ -64)=false:=by simp;omega
 have d5:decide (n≤0)=false:=by simp;omega
 unfold Wn.mark;generalize res64 n=k at *;refine AC.N Tryz.func176 Tryz.ntmps176 ?_;intro X hρ hmks;refine NX ?_
 repeat' (first|((first|refine wA1 ?_|(refine GA ?_;refine ⟨fun hg=>?_,fun hg=>?_⟩)|(refine GV ?_;intro c hnil;simp only [nz])|refine wA2 ?_)<;>(try simp only [d1,d2,d3,d4,d5,d7,hw1,hw2,hm,nq,Nat.reduceBEq,Nat.reduceAdd,Nat.reduceSub]))|refine wT3 ?_|with_reducible intro Q' hQ'|(refine GC ?_;refine ⟨fun hc=>?_,fun hc=>?_⟩)|simp only [la])
 refine cp_loopS [54,55,56,57,58,59,60,61,62,63,64,65,66] (fun a:Nat=>(n - n).toNat - a) (fun a=>a≤(n - n).toNat) (fun a=>[]) (fun a=>[(2,⟨1,wnX ((⟨boot,n,fun _=>false⟩:Wn).ups a)⟩)]) 0 (Nat.zero_le _) (by exact Gh.W) ?_;intro a ha;simp only [setT,deT,setB,List.set_cons_succ,List.set_cons_zero];have hut:((⟨boot,n,fun _=>false⟩:Wn).ups a).top=n + a:=Wn.ups_top (⟨boot,n,fun _=>false⟩:Wn) a;have hub:=Wn.ups_boot (⟨boot,n,fun _=>false⟩:Wn) a
 by_cases hlt:a < (n - n).toNat
 ·have e2:(⟨boot,n,fun _=>false⟩:Wn).ups (a + 1)=((⟨boot,n,fun _=>false⟩:Wn).ups a).up:=rfl;generalize (⟨boot,n,fun _=>false⟩:Wn).ups a=y at *;have q1:decide (y.top < n)=true:=by simp;omega
  have q2:IntKind.i64.wrap (y.top + 1)=y.top + 1:=wrap_i64 (by omega) (by omega);have q3:=res64_tmod (n:=y.top + 1) (by omega);have q4:=res64_lt (y.top + 1);have q5:=wC_set y.boot (y.top + 1) y.came (res64 (y.top + 1)) false;unfold Wn.up at e2;generalize res64 (y.top + 1)=r at *
  repeat' (first|((first|refine wA1 ?_|(refine GA ?_;refine ⟨fun hg=>?_,fun hg=>?_⟩)|(refine GV ?_;intro c hnil;simp only [nz])|refine wA2 ?_)<;>(try simp only [q1,q2,q3,q5,Int.toNat_natCast,nq,Nat.reduceBEq,Nat.reduceAdd,Nat.reduceSub]))|refine wT3 ?_|with_reducible intro Q' hQ'|(refine GC ?_;refine ⟨fun hc=>?_,fun hc=>?_⟩)|simp only [la])
  exact ⟨a + 1,by omega,by omega,by (rw [e2];exact Gh.W)⟩
 ·obtain rfl:a=(n - n).toNat:=by omega
  generalize (⟨boot,n,fun _=>false⟩:Wn).ups (n - n).toNat=y at *;have q1:decide (y.top < n)=false:=by simp;omega
  have q5:=wC_set y.boot y.top y.came k true
  repeat' (first|((first|refine wA1 ?_|(refine GA ?_;refine ⟨fun hg=>?_,fun hg=>?_⟩)|(refine GV ?_;intro c hnil;simp only [nz])|refine wA2 ?_)<;>(try simp only [q1,hm,q5,Int.toNat_natCast,nq,Nat.reduceBEq,Nat.reduceAdd,Nat.reduceSub]))|refine wT3 ?_|with_reducible intro Q' hQ'|(refine GC ?_;refine ⟨fun hc=>?_,fun hc=>?_⟩)|simp only [la])
  (exact RetQ.A [] (by exact ⟨rfl,rfl⟩))
theorem after_ac (w:Wn) (boot n:Int) (hn:n≤9223372036854775807) (ht:w.ok):AC Tryz.prog 176 [.ag (wC w),I boot,I n] [] (fun v bs'=>v=.ag (wC (w.after boot n))∧bs'=[]):=by
 by_cases h1:boot < w.boot∨n < 1
 ·exact after_no w boot n h1
 ·by_cases hb:w.boot < boot
  ·by_cases hf:n < 64
   ·exact new_near w boot n hb (by omega) hn ht hf
   ·exact new_far w boot n hb (by omega) hn ht hf
  ·by_cases hf:w.top≤n - 64
   ·exact after_far w boot n (by omega) (by omega) hn ht hf
   ·cases h:w.old n with
    | true=>exact after_old w boot n (by omega) (by omega) hn ht h
    | false=>exact after_near w boot n (by omega) (by omega) hn ht h hf
abbrev v64 (c:Nat→Bool):List Value:=[.bool (c 0),.bool (c 1),.bool (c 2),.bool (c 3),.bool (c 4),.bool (c 5),.bool (c 6),.bool (c 7),.bool (c 8),.bool (c 9),.bool (c 10),.bool (c 11),.bool (c 12),.bool (c 13),.bool (c 14),.bool (c 15),.bool (c 16),.bool (c 17),.bool (c 18),.bool (c 19),.bool (c 20),.bool (c 21),.bool (c 22),.bool (c 23),.bool (c 24),.bool (c 25),.bool (c 26),.bool (c 27),.bool (c 28),.bool (c 29),.bool (c 30),.bool (c 31),.bool (c 32),.bool (c 33),.bool (c 34),.bool (c 35),.bool (c 36),.bool (c 37),.bool (c 38),.bool (c 39),.bool (c 40),.bool (c 41),.bool (c 42),.bool (c 43),.bool (c 44),.bool (c 45),.bool (c 46),.bool (c 47),.bool (c 48),.bool (c 49),.bool (c 50),.bool (c 51),.bool (c 52),.bool (c 53),.bool (c 54),.bool (c 55),.bool (c 56),.bool (c 57),.bool (c 58),.bool (c 59),.bool (c 60),.bool (c 61),.bool (c 62),.bool (c 63)]
abbrev wV (w:Wn):List Value:=.bool true :: .int .i64 w.boot :: .int .i64 w.top :: v64 w.came
theorem v64_eq (c:Nat→Bool):v64 c=(List.range 64).map fun j=>.bool (c j):=rfl
theorem eqVs_bools (c d:Nat→Bool):∀ l:List Nat,eqVs (l.map fun j=>.bool (c j)) (l.map fun j=>.bool (d j))=l.all fun j=>c j == d j
 | []=>rfl
 | j :: l=>by simp [eqVs,eqV1,eqVs_bools c d l]
theorem wV_eq (x w:Wn):eqVs (wV x) (wV w)=(x.boot == w.boot && (x.top == w.top && (List.range 64).all fun j=>x.came j == w.came j)):=by
 show (eqV1 (.bool true) (.bool true) && (eqV1 (.int .i64 x.boot) (.int .i64 w.boot) && (eqV1 (.int .i64 x.top) (.int .i64 w.top) && eqVs (v64 x.came) (v64 w.came))))=_
 rw [v64_eq,v64_eq,eqVs_bools];rfl
theorem wV_refl (w:Wn):eqVs (wV w) (wV w)=true:=by rw [wV_eq];simp
def Wn.taken (w:Wn) (boot n:Int):Bool:=!(decide (boot < w.boot)) && !((w.base boot).old n)
theorem Wn.go_ne {x:Wn} {n:Int} (h1:1≤n) (ht:0≤x.top) (h:x.old n=false):(x.go n).top≠x.top∨((x.go n).came (res64 n)=true∧x.came (res64 n)=false):=by
 unfold Wn.go;have hm:∀ y:Wn,(y.mark n).came (res64 n)=true:=fun y=>by simp [Wn.mark,upd]
 by_cases hl:n≤x.top
 ·refine .inr ⟨hm _,?_⟩;unfold Wn.old at h;simp only [Bool.or_eq_false_iff,Bool.and_eq_false_iff,decide_eq_false_iff_not] at h;exact h.2.resolve_left (by omega)
 ·refine .inl ?_
  show ((x.far n).ups _).top≠x.top
  rw [Wn.ups_top];unfold Wn.far;split
  ·dsimp only;omega
  ·omega
theorem Wn.taken_ne {w:Wn} {boot n:Int} (h1:1≤n) (ht:w.ok) (h:w.taken boot n=true):eqVs (wV (w.after boot n)) (wV w)=false:=by
 simp only [Wn.taken,Bool.and_eq_true,Bool.not_eq_true',decide_eq_false_iff_not] at h
 have e:w.after boot n=(w.base boot).go n:=by
  unfold Wn.after;rw [if_neg (by omega),if_neg (by rw [h.2];simp)]
 rw [e,wV_eq];unfold Wn.base at *
 by_cases hb:w.boot < boot
 ·rw [if_pos hb] at *
  have:((⟨boot,0,fun _=>false⟩:Wn).go n).boot=boot:=by
   show (Wn.ups _ _).boot=boot
   rw [Wn.ups_boot];unfold Wn.far;split<;>rfl
  rw [this];simp;omega
 ·rw [if_neg hb] at *;rcases Wn.go_ne h1 ht.1 h.2 with h3|⟨h3,h4⟩
  ·simp [h3]
  ·have:((List.range 64).all fun j=>(w.go n).came j == w.came j)=false:=by
    rw [Bool.eq_false_iff];intro hall;have:=List.all_eq_true.1 hall (res64 n) (List.mem_range.2 (res64_lt n));rw [h3,h4] at this;cases this
   rw [this];simp
theorem Wn.not_taken {w:Wn} {boot n:Int} (h:w.taken boot n=false):w.after boot n=w:=by
 unfold Wn.after;split
 ·rfl
 ·rename_i h1
  simp only [Wn.taken,Bool.and_eq_false_iff,Bool.not_eq_false',decide_eq_true_eq] at h;rw [if_pos (h.resolve_left (by omega))]
def Wn.take (w:Wn) (boot n:Int):Int×Wn:=if boot < 0∨n < 1 then (2,w) else if w.taken boot n=true then (0,w.after boot n) else (180,w)
theorem wA3 {G G':Prop} (K:G') (h:G'→G:=by (intro kz;(with_reducible apply AP.k_any);exact AP.EQ kz)):G:=h K
theorem wD4 {G G':Prop} (K:G') (h:G'→G:=by (intro kz;(with_reducible apply DW.k_any);first|exact DW.ST kz|exact DW.R kz|exact DW.R' kz|exact DW.W kz|exact DW.W' kz)):G:=h K
theorem take18_ac (w:Wn) (boot n:Int) (hn:n≤9223372036854775807) (ht:w.ok):AC Tryz.prog 108 [.bp 0 0 0,I boot,I n] [wnX w] (fun v bs'=>v=I (w.take boot n).1∧bs'=[wnX (w.take boot n).2]):=by
 have h1:=wnone18_ac w;have h2:=after_ac w boot n hn ht
 by_cases hb:boot < 0
 ·have e:w.take boot n=(2,w):=if_pos (.inl hb);rw [e];have d1:decide (boot < 0)=true:=by simp;omega
  refine AC.N Tryz.func108 Tryz.ntmps108 ?_;intro X hρ hmks;refine NX ?_
  repeat' (first|((first|refine wA1 ?_|(refine GA ?_;refine ⟨fun hg=>?_,fun hg=>?_⟩)|(refine GV ?_;intro c hnil;simp only [nz])|refine wA2 ?_|refine wD3 ?_)<;>(try simp only [d1,nq,Nat.reduceBEq,Nat.reduceAdd,Nat.reduceSub]))|refine wT2 ?_|with_reducible intro Q' hQ'|(refine GC ?_;refine ⟨fun hc=>?_,fun hc=>?_⟩)|simp only [la])
  (exact RetQ.A [(0,0)] (by exact ⟨rfl,rfl⟩))
 ·have d1:decide (boot < 0)=false:=by simp;omega
  by_cases hn1:n < 1
  ·have e:w.take boot n=(2,w):=if_pos (.inr hn1);rw [e];have d2:decide (n < 1)=true:=by simp;omega
   refine AC.N Tryz.func108 Tryz.ntmps108 ?_;intro X hρ hmks;refine NX ?_
   repeat' (first|((first|refine wA1 ?_|(refine GA ?_;refine ⟨fun hg=>?_,fun hg=>?_⟩)|(refine GV ?_;intro c hnil;simp only [nz])|refine wA2 ?_|refine wD3 ?_)<;>(try simp only [d1,d2,nq,Nat.reduceBEq,Nat.reduceAdd,Nat.reduceSub]))|refine wT2 ?_|with_reducible intro Q' hQ'|(refine GC ?_;refine ⟨fun hc=>?_,fun hc=>?_⟩)|simp only [la])
   (exact RetQ.A [(0,0)] (by exact ⟨rfl,rfl⟩))
  ·have d2:decide (n < 1)=false:=by simp;omega
   cases hk:w.taken boot n with
   | true=>
    have e:w.take boot n=(0,w.after boot n):=by unfold Wn.take;rw [if_neg (by omega),if_pos hk]
    rw [e];have hne:=Wn.taken_ne (by omega) ht hk;generalize w.after boot n=x at *;refine AC.N Tryz.func108 Tryz.ntmps108 ?_;intro X hρ hmks;refine NX ?_
    repeat' (first|((first|refine wA1 ?_|(refine GA ?_;refine ⟨fun hg=>?_,fun hg=>?_⟩)|(refine GV ?_;intro c hnil;simp only [nz])|refine wA3 ?_|refine wA2 ?_|refine wD4 ?_|((with_reducible apply DW.k_any);refine DW.known rfl ?_;(with_reducible first|apply DW.sx 2);(iterate 2 (focus (simp only [ft,nm,Nat.reduceAdd,Nat.reduceBEq,List.getElem?_cons_zero,List.getElem?_cons_succ];exact rfl)));(focus (intro X V;simp only [ft,nm,Nat.reduceAdd,Nat.reduceBEq];(try (refine AP.Y ?_;dsimp only));(first|refine AP.EQ ?_|fail);(try refine NX ?_);refine AP.nil ?_;(first|refine ⟨trivial,rfl,?_⟩|refine ⟨rfl,rfl,?_⟩);(repeat' (first|exact Mg.nil|apply Mg.keep rfl|apply Mg.take rfl));done));(focus (refine Exists.intro (fun _=>0) ?_;apply Exists.intro;(repeat' (first|exact Mg.nil|apply Mg.keep rfl|apply Mg.take rfl));done));(iterate 2 (focus (exact rfl)))))<;>(try simp only [d1,d2,hne,nq,Nat.reduceBEq,Nat.reduceAdd,Nat.reduceSub]))|refine wT2 ?_|with_reducible intro Q' hQ'|(refine GC ?_;refine ⟨fun hc=>?_,fun hc=>?_⟩)|simp only [la])
    (exact RetQ.A [(0,0)] (by exact ⟨rfl,rfl⟩))
   | false=>
    have e:w.take boot n=(180,w):=by unfold Wn.take;rw [if_neg (by omega),if_neg (by rw [hk];simp)]
    rw [e];rw [Wn.not_taken hk] at h2;have hne:=wV_refl w;refine AC.N Tryz.func108 Tryz.ntmps108 ?_;intro X hρ hmks;refine NX ?_
    repeat' (first|((first|refine wA1 ?_|(refine GA ?_;refine ⟨fun hg=>?_,fun hg=>?_⟩)|(refine GV ?_;intro c hnil;simp only [nz])|refine wA3 ?_|refine wA2 ?_|refine wD4 ?_|((with_reducible apply DW.k_any);refine DW.known rfl ?_;(with_reducible first|apply DW.sx 2);(iterate 2 (focus (simp only [ft,nm,Nat.reduceAdd,Nat.reduceBEq,List.getElem?_cons_zero,List.getElem?_cons_succ];exact rfl)));(focus (intro X V;simp only [ft,nm,Nat.reduceAdd,Nat.reduceBEq];(try (refine AP.Y ?_;dsimp only));(first|refine AP.EQ ?_|fail);(try refine NX ?_);refine AP.nil ?_;(first|refine ⟨trivial,rfl,?_⟩|refine ⟨rfl,rfl,?_⟩);(repeat' (first|exact Mg.nil|apply Mg.keep rfl|apply Mg.take rfl));done));(focus (refine Exists.intro (fun _=>0) ?_;apply Exists.intro;(repeat' (first|exact Mg.nil|apply Mg.keep rfl|apply Mg.take rfl));done));(iterate 2 (focus (exact rfl)))))<;>(try simp only [d1,d2,hne,nq,Nat.reduceBEq,Nat.reduceAdd,Nat.reduceSub]))|refine wT2 ?_|with_reducible intro Q' hQ'|(refine GC ?_;refine ⟨fun hc=>?_,fun hc=>?_⟩)|simp only [la])
    (exact RetQ.A [(0,0)] (by exact ⟨rfl,rfl⟩))
abbrev Q4 (x:UInt32):AV:=.sc (.int .u32 (x.toNat:Int))
def shlI (x:UInt32) (j:Int):UInt32:=UInt32.ofBitVec (x.toBitVec <<< (min j.toNat 32))
def shrI (x:UInt32) (j:Int):UInt32:=UInt32.ofBitVec (x.toBitVec >>> (min j.toNat 32))
/-- turned to the right -/
def rotr (x:UInt32) (n:Nat):UInt32:=shrI x n ||| shlI x (32 - n:Int)
theorem u32_lt (x:UInt32):x.toNat < 4294967296:=x.toNat_lt
theorem wrap_u32 {x:Int} (h:0≤x) (h':x < 4294967296):IntKind.u32.wrap x=x:=by
 simp only [IntKind.wrap,IntKind.bits,IntKind.signed,Bool.false_and,Bool.false_eq_true,if_false];omega
theorem wrap_u64 {x:Int} (h:0≤x) (h':x < 18446744073709551616):IntKind.u64.wrap x=x:=by
 simp only [IntKind.wrap,IntKind.bits,IntKind.signed,Bool.false_and,Bool.false_eq_true,if_false];omega
theorem w32_nat (n:Nat):IntKind.u32.wrap (n:Int)=((n % 4294967296:Nat):Int):=by
 simp only [IntKind.wrap,IntKind.bits,IntKind.signed,Bool.false_and,Bool.false_eq_true,if_false];omega
theorem w32_add (x y:UInt32):IntKind.u32.wrap ((x.toNat:Int) + (y.toNat:Int))=((x + y).toNat:Int):=by
 rw [UInt32.toNat_add,←Int.natCast_add,w32_nat]
theorem bv32 (x:UInt32):BitVec.ofInt IntKind.u32.bits (x.toNat:Int)=x.toBitVec:=by
 apply BitVec.eq_of_toNat_eq;have:=u32_lt x
 show (BitVec.ofInt 32 (x.toNat:Int)).toNat=x.toNat
 rw [BitVec.toNat_ofInt];omega
theorem w32_bv (b:BitVec 32):IntKind.u32.wrap ((b.toNat:Nat):Int)=((UInt32.ofBitVec b).toNat:Int):=by
 have:=b.isLt;rw [wrap_u32 (by omega) (by omega)];rfl
theorem w32_and (x y:UInt32):IntKind.u32.wrap (((BitVec.ofInt IntKind.u32.bits (x.toNat:Int)) &&& (BitVec.ofInt IntKind.u32.bits (y.toNat:Int))).toNat:Int)=((x &&& y).toNat:Int):=by
 rw [bv32,bv32];exact w32_bv _
theorem w32_or (x y:UInt32):IntKind.u32.wrap (((BitVec.ofInt IntKind.u32.bits (x.toNat:Int)) ||| (BitVec.ofInt IntKind.u32.bits (y.toNat:Int))).toNat:Int)=((x ||| y).toNat:Int):=by
 rw [bv32,bv32];exact w32_bv _
theorem w32_xor (x y:UInt32):IntKind.u32.wrap (((BitVec.ofInt IntKind.u32.bits (x.toNat:Int)) ^^^ (BitVec.ofInt IntKind.u32.bits (y.toNat:Int))).toNat:Int)=((x ^^^ y).toNat:Int):=by
 rw [bv32,bv32];exact w32_bv _
theorem w32_not (x:UInt32):IntKind.u32.wrap (((BitVec.ofInt IntKind.u32.bits (if IntKind.u32.signed=true then -1 else IntKind.u32.max)) ^^^ (BitVec.ofInt IntKind.u32.bits (x.toNat:Int))).toNat:Int)=((~~~x).toNat:Int):=by
 have e:(if IntKind.u32.signed=true then (-1:Int) else IntKind.u32.max)=4294967295:=by decide
 have e2:BitVec.ofInt IntKind.u32.bits 4294967295 ^^^ BitVec.ofInt IntKind.u32.bits (x.toNat:Int)=(~~~x).toBitVec:=by
  rw [bv32]
  show BitVec.ofInt 32 4294967295 ^^^ x.toBitVec = ~~~x.toBitVec
  rw [show BitVec.ofInt 32 4294967295=BitVec.allOnes 32 from by decide,BitVec.allOnes_xor]
 rw [e,e2];exact w32_bv _
theorem w32_shr (x:UInt32) (j:Int):Int.fdiv (x.toNat:Int) (2 ^ (min j.toNat IntKind.u32.bits))=((shrI x j).toNat:Int):=by
 show Int.fdiv (x.toNat:Int) (2 ^ (min j.toNat 32))=((x.toBitVec >>> (min j.toNat 32)).toNat:Int)
 generalize min j.toNat 32=m;have:((2:Int) ^ m)=((2 ^ m:Nat):Int):=by simp
 rw [this,BitVec.toNat_ushiftRight,Nat.shiftRight_eq_div_pow,Int.fdiv_eq_ediv_of_nonneg _ (Int.natCast_nonneg _)];exact (Int.natCast_ediv _ _).symm
theorem w32_shl (x:UInt32) (j:Int):IntKind.u32.wrap ((x.toNat:Int) * 2 ^ (min j.toNat IntKind.u32.bits))=((shlI x j).toNat:Int):=by
 show IntKind.u32.wrap ((x.toNat:Int) * 2 ^ (min j.toNat 32))=((x.toBitVec <<< (min j.toNat 32)).toNat:Int)
 generalize min j.toNat 32=m;have:((2:Int) ^ m)=((2 ^ m:Nat):Int):=by simp
 rw [this,←Int.natCast_mul,w32_nat,BitVec.toNat_shiftLeft,Nat.shiftLeft_eq];rfl
theorem w64_of32 (x:UInt32):IntKind.u64.wrap (x.toNat:Int)=(x.toNat:Int):=wrap_u64 (by omega) (by have:=u32_lt x;omega)
theorem q4:type_of% (And.intro w32_add (And.intro w32_and (And.intro w32_or (And.intro w32_xor (And.intro w32_not (And.intro w32_shr (And.intro w32_shl w64_of32))))))):=And.intro w32_add (And.intro w32_and (And.intro w32_or (And.intro w32_xor (And.intro w32_not (And.intro w32_shr (And.intro w32_shl w64_of32))))))
/-! turning left -/
def rlJ (k:Int):Int:=IntKind.u64.wrap ((BitVec.ofInt IntKind.u64.bits (IntKind.u64.wrap k) &&& BitVec.ofInt IntKind.u64.bits 31).toNat:Int)
def rlX (x:UInt32) (k:Int):UInt32:=shlI x (rlJ k) ||| shrI x (IntKind.u64.wrap (32 - rlJ k))
theorem wu64_nn (x:Int):0≤IntKind.u64.wrap x:=by
 simp only [IntKind.wrap,IntKind.bits,IntKind.signed,Bool.false_and,Bool.false_eq_true,if_false];omega
theorem rlJ_nn (k:Int):0≤rlJ k:=wu64_nn _
theorem rl_rot {x:UInt32} {n:Nat} (h1:1≤n) (h2:n≤31):rlX x (IntKind.i64.wrap (0 - Int.tmod (n:Int) 32))=rotr x n:=by
 have key:∀ m:_root_.Fin 32,m.val≠0→rlJ (IntKind.i64.wrap (0 - Int.tmod ((m.val:Nat):Int) 32))=32 - (m.val:Int)∧IntKind.u64.wrap (32 - rlJ (IntKind.i64.wrap (0 - Int.tmod ((m.val:Nat):Int) 32)))=(m.val:Int):=by decide +kernel
 have:=key ⟨n,by omega⟩ (by show n≠0;omega);unfold rlX rotr;rw [this.2,this.1,UInt32.or_comm]
abbrev tB:TypeId:=22
abbrev eS (l:List UInt8):List AV:=[bs none l]
abbrev bss (o:Option TypeId) (ls:List (List UInt8)):AV:=.sl o 1 (ls.map eS)
theorem ro_S (l:List (List UInt8)):roE (l.map eS)=l.map eS:=by
 rw [roE_map];refine List.map_congr_left fun x _=>?_
 simp only [eS,roC,AV.ro,ro_B]
theorem wA4 {G G':Prop} (K:G') (h:G'→G:=by (intro kz;(with_reducible apply AP.k_any);exact AP.S kz)):G:=h K
theorem wT4 {G G':Prop} (K:G') (h:G'→G:=by (intro kz;first|((with_reducible apply AP.k_nil);first|exact AP.nil (hQ' _ kz)|exact AP.nil kz)|((with_reducible apply CP.k_reg);exact cp_regG kz)|exact CP.W kz)):G:=h K
theorem wcat_ac (ls:List (List UInt8)) (hl:ls.length≤100000000) (hf:ls.flatten.length≤100000000) :
 AC Tryz.prog 76 [bss none ls] [] (fun v bs'=>v=bs (some tU) ls.flatten∧bs'=[]):=by
 refine AC.N Tryz.func76 Tryz.ntmps76 ?_;intro X hρ hmks;refine NX ?_
 repeat' (first|((first|refine wA4 ?_|((with_reducible apply AP.k_any);first|refine AP.E ?_))<;>(try refine NX ?_))|refine wT4 ?_|with_reducible intro Q' hQ'|(refine GC ?_;refine ⟨fun hc=>?_,fun hc=>?_⟩)|simp only [la])
 refine CP.gh (gh_nil (t:=3) (e:=tU) (k:=1) rfl) ?_;refine NX ?_;refine cp_loopS [3,5,8,9,10,11,12,13,14,15] (fun a:Nat×Nat=>ls.length - a.1) (fun a=>a.1≤ls.length) (fun a=>[(8,I a.1),(3,.hd 0 a.2)]) (fun a=>[(0,⟨a.2,.r tU 1 ((ls.take a.1).flatten.map eB)⟩)]) (0,1) (Nat.zero_le _) (by exact Gh.W) ?_;rintro ⟨k,u⟩ hk;simp only [setT,deT,setB,List.set_cons_succ,List.set_cons_zero];dsimp only at hk
 by_cases hlt:k < ls.length
 ·have hw:IntKind.i64.wrap ((k:Int) + 1)=((k + 1:Nat):Int):=wrap_i64 (by omega) (by omega)
  have hlen:(ls.take k).flatten.length + ls[k].length≤100000000:=by
   have h1:(ls.take k).flatten ++ ls[k]=(ls.take (k + 1)).flatten:=by rw [List.take_succ_eq_append_getElem hlt,List.flatten_append,List.flatten_cons,List.flatten_nil,List.append_nil]
   have h2:(ls.take (k + 1)).flatten ++ (ls.drop (k + 1)).flatten=ls.flatten:=by rw [←List.flatten_append,List.take_append_drop]
   have h3:=congrArg List.length h1;have h4:=congrArg List.length h2;simp only [List.length_append] at h3 h4;omega
  have hlen2:((ls.take k).flatten.map eB).length + (ls[k].map eB).length≤1000000000:=by rw [List.length_map,List.length_map];omega
  repeat' (first|((first|refine wA4 ?_|((with_reducible apply AP.k_any);first|refine AP.E ?_))<;>(try refine NX ?_))|refine wT4 ?_|with_reducible intro Q' hQ'|(refine GC ?_;refine ⟨fun hc=>?_,fun hc=>?_⟩)|simp only [la])
  ·simp only [hw];refine ⟨(k + 1,u + 1),by (dsimp only;omega),by (dsimp only;omega),?_⟩;have h1:(ls.take (k + 1)).flatten.map eB=(ls.take k).flatten.map eB ++ ls[k].map eB:=by rw [List.take_succ_eq_append_getElem hlt,List.flatten_append,List.flatten_cons,List.flatten_nil,List.append_nil,List.map_append]
   simp only [h1];exact Gh.W
  ·exfalso;simp at *;omega
 ·obtain rfl:k=ls.length:=by omega
  rw [List.take_length]
  repeat' (first|((first|refine wA4 ?_|((with_reducible apply AP.k_any);first|refine AP.E ?_))<;>(try refine NX ?_))|refine wT4 ?_|with_reducible intro Q' hQ'|(refine GC ?_;refine ⟨fun hc=>?_,fun hc=>?_⟩)|simp only [la])
  all_goals first
   | (exfalso;simp at *;done)
   | (exfalso;simp at *;omega)
   | (refine RetQ.B [] ?_;(try dsimp only [resV,List.getD_cons_succ,List.getD_cons_zero]);(exact ⟨rfl,rfl⟩))
/-- the last n bytes of a number -/
def putS (x:Nat):Nat→List UInt8
 | 0=>[]
 | n + 1=>UInt8.ofNat (x / 256 ^ n % 256) :: putS x n
theorem putS_length (x:Nat):∀ n,(putS x n).length=n
 | 0=>rfl
 | n + 1=>by simp [putS,putS_length x n]
theorem put_set (x n i:Nat) (hi:i < n):(List.replicate (n - i) (0:UInt8) ++ putS x i).set (n - 1 - i) (UInt8.ofNat (x / 256 ^ i % 256))=List.replicate (n - (i + 1)) (0:UInt8) ++ putS x (i + 1):=by
 have e:List.replicate (n - i) (0:UInt8)=List.replicate (n - (i + 1)) 0 ++ [0]:=by
  rw [show n - i=n - (i + 1) + 1 by omega,List.replicate_succ']
 rw [e,List.append_assoc,List.set_append_right _ _ (by simp;omega)];simp only [List.length_replicate,show n - 1 - i - (n - (i + 1))=0 by omega,List.cons_append,List.nil_append,List.set_cons_zero,putS]
theorem byte_of (x i:Nat) (hi:i < 8):IntKind.u8.wrap (((x:Int)).fdiv (2 ^ (min (8 * i) 64)))=((UInt8.ofNat (x / 256 ^ i % 256)).toNat:Int):=by
 have h1:min (8 * i) 64=8 * i:=by omega
 have h2:(2:Int) ^ (8 * i)=((256 ^ i:Nat):Int):=by
  rw [Int.pow_mul];simp [Int.natCast_pow]
 rw [h1,h2,Int.fdiv_eq_ediv_of_nonneg _ (Int.natCast_nonneg _)];have h3:((x:Int) / ((256 ^ i:Nat):Int))=((x / 256 ^ i:Nat):Int):=by simp
 rw [h3];generalize x / 256 ^ i=y;rw [UInt8.toNat_ofNat'];simp [IntKind.wrap,IntKind.bits,IntKind.signed]
theorem put_ac (x n:Nat) (hn:n≤8) :
 AC Tryz.prog 212 [.sc (.int .u64 (x:Int)),I n] [] (fun v bs'=>v=bs (some tU) (putS x n)∧bs'=[]):=by
 refine AC.N Tryz.func212 Tryz.ntmps212 ?_;intro X hρ hmks;refine NX ?_
 repeat' (first|((first|refine wA4 ?_|((with_reducible apply AP.k_any);first|refine AP.E ?_|refine AP.T ?_)|((with_reducible apply AP.k_any);refine ap_makeS rfl rfl rfl rfl rfl rfl rfl rfl rfl rfl rfl (by omega) ?_))<;>(try refine NX ?_))|refine wT4 ?_|with_reducible intro Q' hQ'|(refine GC ?_;refine ⟨fun hc=>?_,fun hc=>?_⟩)|simp only [la])
 have e0:(List.replicate n [AV.sc (.int .u8 0)])=(List.replicate (n - 0) (0:UInt8) ++ putS x 0).map eB:=by simp [List.map_replicate,putS]
 simp only [List.map_cons,List.map_nil,ZC.val,e0];refine cp_loopS [6,10,11,12,13,14,15,16,17,18,19,20,21,22,23,24] (fun i:Nat=>n - i) (fun i=>i≤n) (fun i=>[(10,I i)]) (fun i=>[(0,⟨1,.r tU 1 ((List.replicate (n - i) (0:UInt8) ++ putS x i).map eB)⟩)]) 0 (Nat.zero_le _) (by exact Gh.W) ?_;rintro i hi;simp only [setT,deT,setB,List.set_cons_succ,List.set_cons_zero]
 by_cases hlt:i < n
 ·have hw:IntKind.i64.wrap ((i:Int) + 1)=((i + 1:Nat):Int):=wrap_i64 (by omega) (by omega);have h8:IntKind.i64.wrap (8 * (i:Int))=((8 * i:Nat):Int):=by rw [wrap_i64 (by omega) (by omega)];simp
  have h1:IntKind.i64.wrap ((n:Int) - 1)=((n - 1:Nat):Int):=by rw [wrap_i64 (by omega) (by omega)];omega
  have h9:IntKind.i64.wrap (IntKind.i64.wrap ((n:Int) - 1) - i)=((n - 1 - i:Nat):Int):=by rw [h1,wrap_i64 (by omega) (by omega)];omega
  have hpl:=putS_length x i;have hlen:(List.replicate (n - i) (0:UInt8) ++ putS x i).length=n:=by simp [hpl];omega
  have hby:=byte_of x i (by omega);have hset:=put_set x n i hlt
  repeat' (first|((first|refine wA4 ?_|((with_reducible apply AP.k_any);first|refine AP.E ?_|refine AP.T ?_))<;>(try refine NX ?_))|refine wT4 ?_|with_reducible intro Q' hQ'|(refine GC ?_;refine ⟨fun hc=>?_,fun hc=>?_⟩)|simp only [la])
  ·simp only [hw,h8,h9,Int.toNat_natCast];refine ⟨i + 1,by omega,by omega,?_⟩;have e1:IntKind.u8.wrap ((x:Int).fdiv (2 ^ (min (8 * i) IntKind.u64.bits)))=((UInt8.ofNat (x / 256 ^ i % 256)).toNat:Int):=hby;rw [e1,show ∀ y:UInt8,[AV.sc (.int .u8 (y.toNat:Int))]=eB y from fun _=>rfl,←List.map_set,hset];exact Gh.W
  ·exfalso;simp at *;omega
 ·obtain rfl:i=n:=by omega
  repeat' (first|((first|refine wA4 ?_|((with_reducible apply AP.k_any);first|refine AP.E ?_|refine AP.T ?_))<;>(try refine NX ?_))|refine wT4 ?_|with_reducible intro Q' hQ'|(refine GC ?_;refine ⟨fun hc=>?_,fun hc=>?_⟩)|simp only [la])
  all_goals first
   | (exfalso;simp at *;done)
   | (exfalso;simp at *;omega)
   | (refine RetQ.B [] ?_;(try dsimp only [resV,List.getD_cons_succ,List.getD_cons_zero]);(exact ⟨by simp,rfl⟩))
theorem aC1 {p G G':Prop} (c:p) (K:G') (h:p→G'→G:=by (intro c kz;(with_reducible apply AP.k_any);exact AP.C c kz)):G:=h c K
theorem put64_ac (x:Nat) :
 AC Tryz.prog 165 [.sc (.int .u64 (x:Int))] [] (fun v bs'=>v=bs none (putS x 8)∧bs'=[]):=by
 have h:=(put_ac x 8 (by omega)).ro (r2:=bs none (putS x 8)) (by simp [AV.ro,ro_B]);refine AC.N Tryz.func165 Tryz.ntmps165 ?_;intro X hρ hmks;refine NX ?_
 repeat' (first|((first|refine wA4 ?_|refine aC1 h ?_)<;>(try refine NX ?_))|refine wT4 ?_|with_reducible intro Q' hQ'|(refine GC ?_;refine ⟨fun hc=>?_,fun hc=>?_⟩)|simp only [la])
 (refine RetQ.B [] ?_;(try dsimp only [resV,List.getD_cons_succ,List.getD_cons_zero]);(exact ⟨rfl,rfl⟩))
abbrev tW:TypeId:=229
abbrev wB (st:Bool×List UInt8):Bx:=.c tW [B true,B st.1,bs (some tU) st.2]
def addS (st:Bool×List UInt8) (b:List UInt8):Bool×List UInt8:=if st.1=true∨65536 < st.2.length + b.length then (true,st.2) else (false,st.2 ++ b)
theorem addS_len {st:Bool×List UInt8} {b:List UInt8} (h:st.2.length≤65536):(addS st b).2.length≤65536:=by
 unfold addS;split
 ·exact h
 ·simp;omega
theorem wA5 {G G':Prop} (K:G') (h:G'→G:=by (intro kz;(with_reducible apply AP.k_any);first|exact AP.S kz|(refine AP.Y ?_;dsimp only;exact kz))):G:=h K
theorem add_ac (st:Bool×List UInt8) (ls:List (List UInt8)) (hst:st.2.length≤65536) (hl:ls.length≤1000) (hb:∀ b∈ls,b.length≤100000000) :
 AC Tryz.prog 191 [.bp 0 0 0,bss (some tB) ls] [wB st] (fun v bs'=>v=.bp 0 0 0∧bs'=[wB (ls.foldl addS st)]):=by
 refine AC.N Tryz.func191 Tryz.ntmps191 ?_;intro X hρ hmks;refine NX ?_
 repeat' (first|((first|refine wA5 ?_|((with_reducible apply AP.k_any);first|refine AP.E ?_|refine AP.T ?_)|(refine GA ?_;refine ⟨fun hg=>?_,fun hg=>?_⟩)|(refine GV ?_;intro c hnil;simp only [nz]))<;>(try refine NX ?_))|refine wT4 ?_|with_reducible intro Q' hQ'|(refine GC ?_;refine ⟨fun hc=>?_,fun hc=>?_⟩)|simp only [la])
 refine cp_loopS [6,19,20,21,22,23,24,25,26,27,28,29,30,31,32,33,34,35,36,37,38,39,40,41,42,43,44,45,46,47,48,49,50,51,52,53,54,55] (fun a:Nat×(Bool×List UInt8)×Nat=>ls.length - a.1) (fun a=>a.1≤ls.length∧a.2.1=(ls.take a.1).foldl addS st∧a.2.1.2.length≤65536) (fun a=>[(19,I a.1)]) (fun a=>[(0,⟨0,.c tW [B true,B a.2.1.1,.hd 1 a.2.2]⟩),(1,⟨a.2.2,.r tU 1 (a.2.1.2.map eB)⟩)]) (0,st,1) ⟨Nat.zero_le _,rfl,hst⟩ (by exact Gh.W) ?_;rintro ⟨k,⟨lg,acc⟩,u⟩ ⟨hk,hs,ha⟩;simp only [setT,deT,setB,List.set_cons_succ,List.set_cons_zero];dsimp only at hk hs ha
 by_cases hlt:k < ls.length
 ·have hw:IntKind.i64.wrap ((k:Int) + 1)=((k + 1:Nat):Int):=wrap_i64 (by omega) (by omega);have hw2:IntKind.i64.wrap (65536 - (acc.length:Int))=((65536 - acc.length:Nat):Int):=by rw [wrap_i64 (by omega) (by omega)];omega
  have hbk:=hb ls[k] (List.getElem_mem hlt);have hfo:(ls.take (k + 1)).foldl addS st=addS (lg,acc) ls[k]:=by rw [List.take_succ_eq_append_getElem hlt,List.foldl_append,←hs];rfl
  have hal:=addS_len (st:=(lg,acc)) (b:=ls[k]) ha
  repeat' (first|((first|refine wA5 ?_|((with_reducible apply AP.k_any);first|refine AP.E ?_|refine AP.T ?_)|(refine GA ?_;refine ⟨fun hg=>?_,fun hg=>?_⟩)|(refine GV ?_;intro c hnil;simp only [nz]))<;>(try refine NX ?_))|refine wT4 ?_|with_reducible intro Q' hQ'|(refine GC ?_;refine ⟨fun hc=>?_,fun hc=>?_⟩)|simp only [la])
  ·subst hg;have e:addS (true,acc) ls[k]=(true,acc):=by simp [addS]
   simp only [hw];exact ⟨(k + 1,(true,acc),u),by (dsimp only;omega),⟨by (dsimp only;omega),by rw [hfo,e],ha⟩,by exact Gh.W⟩
  ·subst hg;have hd:decide (IntKind.i64.wrap (65536 - (acc.length:Int)) < (ls[k].length:Int))=false:=by simpa using hc
   have hd2:=hd;rw [hw2] at hd2;simp at hd2;have e:addS (false,acc) ls[k]=(false,acc ++ ls[k]):=by simp [addS];omega
   simp only [hw,hd];refine ⟨(k + 1,(false,acc ++ ls[k]),u + 1),by (dsimp only;omega),⟨by (dsimp only;omega),by rw [hfo,e],by (dsimp only;rw [List.length_append];omega)⟩,?_⟩;simp only [List.map_append];exact Gh.W
  ·subst hg;have hd:decide (IntKind.i64.wrap (65536 - (acc.length:Int)) < (ls[k].length:Int))=true:=by simpa using hc
   have hd2:=hd;rw [hw2] at hd2;simp at hd2;have e:addS (false,acc) ls[k]=(true,acc):=by simp [addS];omega
   simp only [hw,hd];exact ⟨(k + 1,(true,acc),u),by (dsimp only;omega),⟨by (dsimp only;omega),by rw [hfo,e],ha⟩,by exact Gh.W⟩
  ·exfalso;simp at *;omega
 ·obtain rfl:k=ls.length:=by omega
  rw [List.take_length] at hs;rw [←hs]
  repeat' (first|((first|refine wA5 ?_|((with_reducible apply AP.k_any);first|refine AP.E ?_|refine AP.T ?_)|(refine GA ?_;refine ⟨fun hg=>?_,fun hg=>?_⟩)|(refine GV ?_;intro c hnil;simp only [nz]))<;>(try refine NX ?_))|refine wT4 ?_|with_reducible intro Q' hQ'|(refine GC ?_;refine ⟨fun hc=>?_,fun hc=>?_⟩)|simp only [la])
  all_goals first
   | (exfalso;simp at *;done)
   | (exfalso;simp at *;omega)
   | (exact RetQ.A [(0,0)] (by exact ⟨rfl,rfl⟩))
theorem aC2 {p G G':Prop} (c:p) (K:G') (h:p→G'→G:=by (intro c kz;(with_reducible apply AP.k_any);exact AP.CB [(0,0)] 0 c kz)):G:=h c K
theorem wA6 {G G':Prop} (K:G') (h:G'→G:=by (intro kz;(with_reducible apply AP.k_any);exact AP.Z kz)):G:=h K
theorem wbyte_ac (st:Bool×List UInt8) (x:UInt8) (hst:st.2.length≤65536) :
 AC Tryz.prog 132 [.bp 0 0 0,U x] [wB st] (fun v bs'=>v=.bp 0 0 0∧bs'=[wB (addS st [x])]):=by
 refine AC.N Tryz.func132 Tryz.ntmps132 ?_;intro X hρ hmks;refine NX ?_
 repeat' (first|((first|refine wA6 ?_|refine aC2 (add_ac st [[x]] hst (by simp) (by simp)) ?_)<;>(try refine NX ?_))|refine wT4 ?_|with_reducible intro Q' hQ'|(refine GC ?_;refine ⟨fun hc=>?_,fun hc=>?_⟩)|simp only [la])
 (exact RetQ.A [(0,0)] (by exact ⟨rfl,rfl⟩))
theorem u64_nn (n:Int):IntKind.u64.wrap n=((IntKind.u64.wrap n).toNat:Int):=by
 have:0≤IntKind.u64.wrap n:=by simp [IntKind.wrap,IntKind.bits,IntKind.signed];omega
 omega
def intS (n:Int):List UInt8:=putS (IntKind.u64.wrap n).toNat 8
def flagS (b:Bool):List UInt8:=if b then [1] else [0]
theorem wint_ac (st:Bool×List UInt8) (n:Int) (hst:st.2.length≤65536) :
 AC Tryz.prog 130 [.bp 0 0 0,I n] [wB st] (fun v bs'=>v=.bp 0 0 0∧bs'=[wB (addS st (intS n))]):=by
 have h:=put64_ac (IntKind.u64.wrap n).toNat;rw [←u64_nn] at h;have h2:=add_ac st [intS n] hst (by simp) (by simp [intS,putS_length]);refine AC.N Tryz.func130 Tryz.ntmps130 ?_;intro X hρ hmks;refine NX ?_
 repeat' (first|((first|refine wA6 ?_|refine aC1 h ?_|refine aC2 h2 ?_)<;>(try refine NX ?_))|refine wT4 ?_|with_reducible intro Q' hQ'|(refine GC ?_;refine ⟨fun hc=>?_,fun hc=>?_⟩)|simp only [la])
 (exact RetQ.A [(0,0)] (by exact ⟨rfl,rfl⟩))
theorem wflag_ac (st:Bool×List UInt8) (b:Bool) (hst:st.2.length≤65536) :
 AC Tryz.prog 206 [.bp 0 0 0,B b] [wB st] (fun v bs'=>v=.bp 0 0 0∧bs'=[wB (addS st (flagS b))]):=by
 cases b with
 | true=>
  refine AC.N Tryz.func206 Tryz.ntmps206 ?_;intro X hρ hmks;refine NX ?_
  repeat' (first|((first|refine wA4 ?_|refine aC2 (wbyte_ac st 1 hst) ?_)<;>(try refine NX ?_))|refine wT4 ?_|with_reducible intro Q' hQ'|(refine GC ?_;refine ⟨fun hc=>?_,fun hc=>?_⟩)|simp only [la])
  (exact RetQ.A [(0,0)] (by exact ⟨rfl,rfl⟩))
 | false=>
  refine AC.N Tryz.func206 Tryz.ntmps206 ?_;intro X hρ hmks;refine NX ?_
  repeat' (first|((first|refine wA4 ?_|refine aC2 (wbyte_ac st 0 hst) ?_)<;>(try refine NX ?_))|refine wT4 ?_|with_reducible intro Q' hQ'|(refine GC ?_;refine ⟨fun hc=>?_,fun hc=>?_⟩)|simp only [la])
  (exact RetQ.A [(0,0)] (by exact ⟨rfl,rfl⟩))
theorem put32_ac (x:Nat) (hx:x < 4294967296) :
 AC Tryz.prog 192 [.sc (.int .u32 (x:Int))] [] (fun v bs'=>v=bs none (putS x 4)∧bs'=[]):=by
 have h:=(put_ac x 4 (by omega)).ro (r2:=bs none (putS x 4)) (by simp [AV.ro,ro_B]);have hw:IntKind.u64.wrap (x:Int)=(x:Int):=by simp [IntKind.wrap,IntKind.bits,IntKind.signed];omega
 rw [←hw] at h;refine AC.N Tryz.func192 Tryz.ntmps192 ?_;intro X hρ hmks;refine NX ?_
 repeat' (first|((first|refine wA4 ?_|refine aC1 h ?_)<;>(try refine NX ?_))|refine wT4 ?_|with_reducible intro Q' hQ'|(refine GC ?_;refine ⟨fun hc=>?_,fun hc=>?_⟩)|simp only [la])
 (refine RetQ.B [] ?_;(try dsimp only [resV,List.getD_cons_succ,List.getD_cons_zero]);(exact ⟨rfl,rfl⟩))
theorem wbytes_ac (st:Bool×List UInt8) (b:List UInt8) (hst:st.2.length≤65536) (hb:b.length≤100000000) :
 AC Tryz.prog 144 [.bp 0 0 0,bs none b] [wB st] (fun v bs'=>v=.bp 0 0 0∧bs'=[wB (addS (addS st (putS b.length 4)) b)]):=by
 have hw:IntKind.u32.wrap (b.length:Int)=(b.length:Int):=by simp [IntKind.wrap,IntKind.bits,IntKind.signed];omega
 have h:=put32_ac b.length (by omega);rw [←hw] at h;have h2:=add_ac st [putS b.length 4,b] hst (by simp) (by simp [putS_length];omega);refine AC.N Tryz.func144 Tryz.ntmps144 ?_;intro X hρ hmks;refine NX ?_
 repeat' (first|((first|refine wA6 ?_|refine aC1 h ?_|refine aC2 h2 ?_)<;>(try refine NX ?_))|refine wT4 ?_|with_reducible intro Q' hQ'|(refine GC ?_;refine ⟨fun hc=>?_,fun hc=>?_⟩)|simp only [la])
 (exact RetQ.A [(0,0)] (by exact ⟨rfl,rfl⟩))
theorem wnew_ac:AC Tryz.prog 129 [] [] (fun v bs'=>v=.bp 0 0 0∧bs'=[wB (false,[])]):=by
 refine AC.N Tryz.func129 Tryz.ntmps129 ?_;intro X hρ hmks;refine NX ?_
 repeat' (first|((first|refine wA4 ?_)<;>(try refine NX ?_))|refine wT4 ?_|with_reducible intro Q' hQ'|(refine GC ?_;refine ⟨fun hc=>?_,fun hc=>?_⟩)|simp only [la])
 (exact RetQ.A [(0,1)] (by exact ⟨rfl,rfl⟩))
/-- a writer behind its end: what it wrote may be read -/
abbrev wD (st:Bool×List UInt8):Bx:=.c tW [B true,B st.1,bs none st.2]
theorem wdone_ac (st:Bool×List UInt8) (hst:st.2.length≤65536) :
 AC Tryz.prog 94 [.bp 0 0 0] [wB st] (fun v bs'=>v=.tu [bs none (if st.1 then [] else st.2),I (if st.1 then 3 else 0)]∧bs'=[wD st]):=by
 obtain ⟨lg,acc⟩:=st;have h:=(wcat_ac [acc] (by simp) (by simp at hst ⊢;omega)).ro (r2:=bs none acc) (by simp [AV.ro,ro_B])
 cases lg with
 | true=>
  refine AC.N Tryz.func94 Tryz.ntmps94 ?_;intro X hρ hmks;refine NX ?_;refine CP.gh (gh_fz (b:=1) (u:=1) rfl rfl (by (repeat' (first|exact FzC.nil|apply FzC.cons|exact FzV.hd|apply FzV.ag|exact FzV.same))) (by (repeat' (first|exact FzB.nil|apply FzB.c|apply FzB.same|exact FzC.nil|apply FzC.cons|exact FzV.hd|apply FzV.ag|exact FzV.same)))) ?_;simp only [ro_B]
  repeat' (first|((first|refine wA5 ?_|(refine GA ?_;refine ⟨fun hg=>?_,fun hg=>?_⟩)|(refine GV ?_;intro c hnil;simp only [nz]))<;>(try refine NX ?_))|refine wT4 ?_|with_reducible intro Q' hQ'|(refine GC ?_;refine ⟨fun hc=>?_,fun hc=>?_⟩)|simp only [la])
  (exact RetQ.A [(0,0)] (by exact ⟨rfl,rfl⟩))
 | false=>
  refine AC.N Tryz.func94 Tryz.ntmps94 ?_;intro X hρ hmks;refine NX ?_;refine CP.gh (gh_fz (b:=1) (u:=1) rfl rfl (by (repeat' (first|exact FzC.nil|apply FzC.cons|exact FzV.hd|apply FzV.ag|exact FzV.same))) (by (repeat' (first|exact FzB.nil|apply FzB.c|apply FzB.same|exact FzC.nil|apply FzC.cons|exact FzV.hd|apply FzV.ag|exact FzV.same)))) ?_;simp only [ro_B]
  repeat' (first|((first|refine wA5 ?_|(refine GA ?_;refine ⟨fun hg=>?_,fun hg=>?_⟩)|(refine GV ?_;intro c hnil;simp only [nz])|refine aC1 h ?_|((with_reducible apply AP.k_any);refine AP.gh (gh_fz (b:=1) (u:=2) rfl rfl (by (repeat' (first|exact FzC.nil|apply FzC.cons|exact FzV.hd|apply FzV.ag|exact FzV.same))) (by (repeat' (first|exact FzB.nil|apply FzB.c|apply FzB.same|exact FzC.nil|apply FzC.cons|exact FzV.hd|apply FzV.ag|exact FzV.same)))) ?_;first|simp only [roE,roC,AV.ro,ro_B,ro_M,ro_E]|simp only [roE,roC,AV.ro,ro_B]))<;>(try refine NX ?_))|refine wT4 ?_|with_reducible intro Q' hQ'|(refine GC ?_;refine ⟨fun hc=>?_,fun hc=>?_⟩)|simp only [la])
  (exact RetQ.A [(0,0)] (by exact ⟨rfl,rfl⟩))
end Go.Proofs.YtifebijohmlnbaaGreat
