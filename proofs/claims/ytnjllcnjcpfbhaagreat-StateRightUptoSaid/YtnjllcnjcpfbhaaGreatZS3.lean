/- Parts. -/
import Derived.Test.YtnjllcnjcpfbhaaGreatZS2
import Derived.DeepKeys
import Derived.Laws.CopyRow
import Derived.Lib.ConvBytes
import Derived.Lib.AppendZeros
import Derived.Laws.BytesString
import Derived.Laws.Cells
namespace Go.Proofs.YtnjllcnjcpfbhaaGreat
set_option linter.unusedVariables false
set_option linter.unusedSimpArgs false
open Go.RowKit Tryz
set_option maxRecDepth 100000
set_option maxHeartbeats 8000000
def nxv:=PLift.up (A2 @nm (A2 @newS.eq_1 (A2 @plc.eq_1 (A2 @plc.eq_2 (A2 @spl.eq_1 (A2 @spl.eq_2 (A2 @bldA.eq_1 (A2 @bldA.eq_2 (A2 @bldS.eq_1 (A2 @bldS.eq_2 (A2 @zrow.eq_1 (A2 @zrow.eq_2 (A2 @chunks.eq_1 (A2 @chunks.eq_2 (A2 @ZC.val.eq_1 (A2 @ZC.val.eq_2 (A2 @ZC.val.eq_3 (A2 @ZC.val.eq_4 (A2 @ZC.val.eq_5 (A2 @ZC.val.eq_6 (A2 @ZC.val.eq_7 (@ZC.val.eq_8))))))))))))))))))))))
theorem nx:type_of% nxv.down:=nxv.down
theorem NX {G G':Prop} (K:G') (h:G'->G:=by (intro k;simp only [nx,Nat.reduceAdd,Nat.reduceSub,BEq.rfl];exact k)):G:=h K
theorem CD {G G':Prop} (K:G') (h:G'->G:=by (intro k;simp only [cond_true,cond_false,setT,List.set_cons_succ,List.set_cons_zero,List.getD_cons_succ,List.getD_cons_zero,List.set_cons_succ];exact k)):G:=h K
theorem AP.N0 {G G':Prop} (K:G') (h:G'->G:=by (intro k;(with_reducible apply AP.k_nil);first|exact AP.nil (hQ' _ k)|exact AP.nil k)):G:=h K
theorem PF0 {p:Prop} (h:p:=by ((repeat' (with_reducible apply And.intro))<;>(first|exact True.intro|exact rfl|omega|decide|(simp;omega)|(simp;done)|assumption|exact .inl rfl|(refine .inr ?_;simp;try omega)))):p:=h
theorem RA0 {G:Prop} (h:G:=by exact RetQ.A [] (by exact ⟨rfl,rfl⟩)):G:=h
theorem RA1 {G:Prop} (h:G:=by exact RetQ.A [(0,0)] (by exact ⟨rfl,rfl⟩)):G:=h
theorem ST0 {G G':Prop} (K:G') (h:G'->G:=by (intro k;simp only [setT,deT,setB,List.set_cons_succ,List.set_cons_zero];exact k)):G:=h K
theorem RB1 {G G':Prop} (K:G') (h:G'->G:=by (intro k;refine RetQ.B [] ?_;(try dsimp only [resV,List.getD_cons_succ,List.getD_cons_zero]);exact k)):G:=h K
theorem DS0 {G G1 G':Prop} (K:G') (h1:G1->G:=by (intro k;(with_reducible apply DW.k_any);first|exact DW.R k|exact DW.R' k|exact DW.W k|exact DW.W' k|exact DW.RA k|exact DW.A 0 k|exact DW.A 1 k|exact DW.A 2 k|exact DW.A' 0 k|exact DW.A' 2 k|exact DW.RX k|exact DW.WX k|exact DW.WX' k|exact DW.RM k|exact DW.WM k|exact DW.WM' k)) (h2:G'->G1:=by (intro k;(try simp only [nq,Nat.reduceBEq,Nat.reduceAdd,Nat.reduceSub]);exact k)):G:=h1 (h2 K)
theorem DS1 {G G1 G':Prop} (K:G') (h1:G1->G:=by (intro k;(with_reducible apply DW.k_any);first|exact DW.R k|exact DW.R' k|exact DW.W k|exact DW.W' k|exact DW.RA k|exact DW.A 0 k|exact DW.A 1 k|exact DW.A 2 k|exact DW.A' 0 k|exact DW.A' 2 k|exact DW.RX k|exact DW.WX k|exact DW.WX' k|exact DW.RM k|exact DW.WM k|exact DW.WM' k)) (h2:G'->G1:=by (intro k;(try simp only [List.length_map,nq,Nat.reduceBEq,Nat.reduceAdd,Nat.reduceSub]);exact k)):G:=h1 (h2 K)
def flt:AV->Bool
 | .sl (some _) _ _ | .ob _ _ | .mo _ _=>false
 | _=>true
theorem opnA_flt (b:List Sl):∀ {a:AV},flt a=true->opnA a b=(a,b):=fun {a} h=>by
 cases a<;>first|rfl|(cases h;done)|(rename_i o k s;cases o<;>first|rfl|(cases h;done))
theorem opnC_flt:∀ {l:List AV} (b:List Sl),l.all flt=true->opnC l b=(l,b)
 | [],_,_=>rfl
 | a :: l,b,h=>by
  rw [List.all_cons,Bool.and_eq_true] at h;rw [opnC,opnA_flt b h.1];dsimp only;rw [opnC_flt b h.2]
theorem Bk.cF {b:List Sl} {k u:Nat} {T:TypeId} {l:List AV} {ks:List (Nat×Nat)} {bs:List Bx} {b2:List Sl} (h1:b[k]? = some ⟨u,.o⟩) (hf:l.all flt=true) (h2:Bk (b.set k ⟨u,.c T l⟩) ks bs b2):Bk b ((k,u) :: ks) (.c T l :: bs) b2:=.cons h1 (opnC_flt b hf) h1 h2
def BkN (T:TypeId) (ks:List (Nat×Nat)) (bs:List Bx) (k u:Nat) (p:List AV×List Sl) (b2:List Sl):Prop:=p.2[k]? = some ⟨u,.o⟩/\Bk (p.2.set k ⟨u,.c T p.1⟩) ks bs b2
theorem Bk.cN {b:List Sl} {k u:Nat} {T:TypeId} {l:List AV} {ks:List (Nat×Nat)} {bs:List Bx} {b2:List Sl} (h1:b[k]? = some ⟨u,.o⟩) (h2:BkN T ks bs k u (opnC l b) b2):Bk b ((k,u) :: ks) (.c T l :: bs) b2:=.cons h1 rfl h2.1 h2.2
theorem BkN.mk {T:TypeId} {ks:List (Nat×Nat)} {bs:List Bx} {k u:Nat} {l:List AV} {b1 b2:List Sl} (h1:b1[k]? = some ⟨u,.o⟩) (h2:Bk (b1.set k ⟨u,.c T l⟩) ks bs b2):BkN T ks bs k u (l,b1) b2:=⟨h1,h2⟩
section
variable {X:Cx} {s s':AS} {o:Oper} {av:AV} {p:Prop} {op:Op} {ops:Array Oper} {rest:List Oper} {Q:Exit->AS->Prop} {Qa:AS->Prop}
theorem AP.S (K:AP prog X ops Q rest s') (h:smG false ops s o=some (s',p):=by exact rfl) (hp:p:=by (exact PF0)):AP prog X ops Q (o :: rest) s:=AP.sm false h hp K
theorem AP.Z (K:AP prog X ops Q rest s') (h:smG true ops s o=some (s',p):=by exact rfl) (hp:p:=by (exact PF0)):AP prog X ops Q (o :: rest) s:=AP.sm true h hp K
theorem AP.E {rows:List (List AV)} {i:Nat} {f:List AV->Option AV} {c:List AV} {d:Option Nat} {ty:Nat} {pos:String} {aft:Array Edge} (K:AP prog X ops Q rest (s.put d av)) (h:elS s op=some (rows,i,f,p):=by exact rfl) (hc:rows[i]? = some c/\f c=some av:=by (first|(refine ⟨?_,?_⟩;assumption;rfl)|((try clear kz);exact ⟨mapAt (by (first|omega|(simp;omega)|(simp;done)|assumption)),rfl⟩)|exact ⟨rfl,rfl⟩)) (hp:p:=by (exact PF0)):AP prog X ops Q (⟨d,op,ty,pos,aft,none⟩ :: rest) s:=AP.el h hp hc K
theorem AP.Y {P:Program} {j d:Nat} {b:Bool} (h:AP P X ops Q ({ o with guard:=none } :: rest) s) (hg:o.guard=some (j,b):=by exact rfl) (hd:(ops[j]?).bind (·.dst)=some d:=by exact rfl) (hs:s.t.getD d .de=.sc (.bool b):=by exact rfl):AP P X ops Q (o :: rest) s:=AP.gyes hg hd hs h
theorem AP.T {T e k:Nat} {x y:Operand} {b u i off:Nat} {s1:List (List AV)} {c:List AV} {old:AV} {ti:TI} (K:AP prog X ops Q rest (AS.put ⟨s.t,s.b.set b ⟨u,.r e k (s1.set i (c.set off av))⟩⟩ o.dst (.tu [])))
 (hg:o.guard=none:=by exact rfl) (ho:o.op=.store T x y:=by exact rfl) (hx:aev s x=.ep b u k i off:=by exact rfl) (hs:s.b[b]? = some ⟨u,.r e k s1⟩:=by exact rfl) (hy:aev s y=av:=by exact rfl) (hl:(av.leaf && av.known)=true:=by exact rfl)
 (hT:tt[T]? = some ti:=by exact rfl) (hn:ti.size=1:=by exact rfl) (hcl:s1[i]? = some c/\c[off]? = some old:=by (first|(refine ⟨?_,?_⟩;assumption;rfl)|((try clear kz);exact ⟨mapAt (by (first|omega|(simp;omega)|(simp;done)|assumption)),rfl⟩)|exact ⟨rfl,rfl⟩)) (ht:old.tree=false:=by exact rfl):AP prog X ops Q (o :: rest) s:=ap_storeE hg ho hx hs hy hl hT hn hcl ht K
theorem AP.V {op:BinOp} {T T' e k:TypeId} {x y:Operand} {s1:List (List AV)} {i:TI} (K:∀ c:Bool,(c=true->s1=[])->AP prog X ops Q rest (s.put o.dst (.sc (.bool (nz op c)))))
 (hg:o.guard=none:=by exact rfl) (ho:o.op=.binOp op T x y T':=by exact rfl) (hx:aev s x=.sl none k s1:=by exact rfl) (hy:aev s y=.sc (.slice none 0 0):=by exact rfl) (hT:tt[T]? = some i:=by exact rfl) (hk:i.kd=.sl e:=by exact rfl) (hop:op=.eql\/op=.neq:=by first|exact .inl rfl|exact .inr rfl):AP prog X ops Q (o :: rest) s:=ap_nilsl hg ho hx hy hT hk hop K
theorem AP.F0 {op:BinOp} {T T':TypeId} {x y:Operand} {r:Bool} (K:AP prog X ops Q rest (s.put o.dst (.sc (.bool r)))) (hg:o.guard=none:=by exact rfl) (ho:o.op=.binOp op T x y T':=by exact rfl) (hx:aev s x=.sc .nilFunc:=by exact rfl) (hy:aev s y=.sc .nilFunc:=by exact rfl) (hr:nilB op true=some r:=by exact rfl)
 (hT:(match prog.underlying T with|some (.func _ _ _)=>true | _=>false)=true:=by kernel_rfl):AP prog X ops Q (o :: rest) s:=AP.pure hg (pq_fneqN ho hx hy hr hT) K
theorem AP.G {P:Program} {j d:Nat} {b c:Bool} (h1:c=true->AP P X ops Q (o :: rest) ⟨s.t.set d (.sc (.bool true)),s.b⟩) (h2:c=false->AP P X ops Q (o :: rest) ⟨s.t.set d (.sc (.bool false)),s.b⟩) (hg:o.guard=some (j,b):=by exact rfl) (hd:(ops[j]?).bind (·.dst)=some d:=by exact rfl) (hs:s.t.getD d .de=.sc (.bool c):=by exact rfl):AP P X ops Q (o :: rest) s:=AP.gsplit hg hd hs h1 h2
def vsB:List (Nat×Nat)->List (Nat×Nat)->Nat->Option (Nat×Nat)
 | (j,0) :: l,p :: m,i=>match Nat.beq i j with
  | true=>some p
  | false=>vsB l m i
 | _ :: l,_ :: m,i=>vsB l m i
 | _,_,_=>none
def ksC (b:List AV) (x:List AV) (i:Nat):Option (Nat×Nat):=
 match b,x with
 | .bp j 0 _ :: b,.bp k u _ :: x=>match Nat.beq i j with
  | true=>some (k,u)
  | false=>ksC b x i
 | .pz l :: b,.pz m :: x=>match vsB l m i with
  | some r=>some r
  | none=>ksC b x i
 | .hd j 0 :: b,.hd k u :: x=>match Nat.beq i j with
  | true=>some (k,u)
  | false=>ksC b x i
 | .vp j 0 _ :: b,.vp k u _ :: x=>match Nat.beq i j with
  | true=>some (k,u)
  | false=>ksC b x i
 | _ :: b,_ :: x=>ksC b x i
 | _,_=>none
def ksB (b:List AV) (x:List AV) (i:Nat):Option (Nat×Nat):=
 match b,x with
 | .bp j 0 _ :: b,.bp k u _ :: x=>match Nat.beq i j with
  | true=>some (k,u)
  | false=>ksB b x i
 | .pz l :: b,.pz m :: x=>match vsB l m i with
  | some r=>some r
  | none=>ksB b x i
 | .hd j 0 :: b,.hd k u :: x=>match Nat.beq i j with
  | true=>some (k,u)
  | false=>ksB b x i
 | .vp j 0 _ :: b,.vp k u _ :: x=>match Nat.beq i j with
  | true=>some (k,u)
  | false=>ksB b x i
 | .fn _ c :: b,.fn _ y :: x=>match ksC c y i with
  | some r=>some r
  | none=>ksB b x i
 | _ :: b,_ :: x=>ksB b x i
 | _,_=>none
def ksA (b x:List AV) (n:Nat):List (Nat×Nat):=(List.range n).filterMap (ksB b x)
theorem AP.C {P:Program} {fn:Nat} {fo:Operand} {cap:List AV} {xs:Array Operand} {tys:Array TypeId} {al:List AV} {r:AV} {bf:List Sl} (hc:AC P fn al [] (fun v bs'=>v=r/\bs'=[])) (K:AP P X ops Q rest (AS.put ⟨s.t,(opnR r bf).2⟩ o.dst (opnR r bf).1))
 (hg:o.guard=none:=by exact rfl) (ho:o.op=.call { callee:=.value fo,args:=xs,argTypes:=tys }:=by exact rfl) (hfo:aev s fo=.fn fn cap:=by exact rfl)
 (hp:PasC false [] [] s.b (fnA cap (xs.toList.map (aev s))) al bf:=by ((repeat' (first|exact PasC.nil|apply PasC.nil|apply PasC.cons|apply PasV.leaf rfl|apply PasV.nl|apply PasV.bp rfl|apply PasV.vp rfl|apply PasV.pz|exact VsM.nil|apply VsM.cons rfl|apply PasV.lend rfl rfl rfl|apply PasV.lend rfl rfl (ro_B _)|apply PasV.lend rfl rfl (ro_M _)|apply PasV.lend rfl rfl (ro_E _ _)|apply PasV.lend rfl rfl (ro_I _)|apply PasV.lend rfl rfl (by (simp only [rn,List.map_cons,List.map_nil];first|done|rfl))|apply PasV.lend rfl rfl (by assumption)|apply PasV.lsb rfl rfl rfl rfl (by (first|assumption|exact rfl))|apply PasV.mv rfl|apply PasV.hk rfl|apply PasV.ag|apply PasV.fn|exact PasV.fs|apply PasV.any|exact rfl));all_goals fail)) (hnb:r.nb=true:=by exact rfl) (hfl:r.fl2b=true:=by exact rfl):AP P X ops Q (o :: rest) s:=ap_callX hg ho hfo hc hp hnb hfl K
theorem AP.CL {P:Program} {fn:Nat} {fo:Operand} {cap:List AV} {xs:Array Operand} {tys:Array TypeId} {al:List AV} {r:AV} (hc:AC P fn al [] (fun v bs'=>v=r/\bs'=[])) (K:AP P X ops Q rest (AS.put ⟨s.t,(opnR r s.b).2⟩ o.dst (opnR r s.b).1))
 (hg:o.guard=none:=by exact rfl) (ho:o.op=.call { callee:=.value fo,args:=xs,argTypes:=tys }:=by exact rfl) (hfo:aev s fo=.fn fn cap:=by exact rfl)
 (hp:PasC true [] s.b s.b (fnA cap (xs.toList.map (aev s))) al s.b:=by ((repeat' (first|exact PasC.nil|apply PasC.nil|apply PasC.cons|apply PasV.leaf rfl|apply PasV.nl|apply PasV.bp rfl|apply PasV.vp rfl|apply PasV.pz|exact VsM.nil|apply VsM.cons rfl|apply PasV.lend rfl rfl rfl|apply PasV.lend rfl rfl (ro_B _)|apply PasV.lend rfl rfl (ro_M _)|apply PasV.lend rfl rfl (ro_E _ _)|apply PasV.lend rfl rfl (ro_I _)|apply PasV.lend rfl rfl (by (simp only [rn,List.map_cons,List.map_nil];first|done|rfl))|apply PasV.lend rfl rfl (by assumption)|apply PasV.lsb rfl rfl rfl rfl (by (first|assumption|exact rfl))|apply PasV.mv rfl|apply PasV.hk rfl|apply PasV.ag|apply PasV.fn|exact PasV.fs|apply PasV.any|exact rfl));all_goals fail)) (hnr:NR r:=by (first|exact NR.sc|exact NR.ni|exact NR.de|exact nr_B|(apply NR.ag;intro a ha;simp only [List.mem_cons,List.not_mem_nil,or_false] at ha;rcases ha with rfl|rfl|rfl|rfl|rfl|rfl|rfl|rfl|rfl|rfl|rfl|rfl<;>first|exact NR.sc|exact NR.ni|exact NR.de|exact nr_B))) (hnb:r.nb=true:=by exact rfl) (hfl:r.fl2b=true:=by exact rfl):AP P X ops Q (o :: rest) s:=ap_callL hg ho hfo hc hp hnr hnb hfl K
theorem AP.CB (ks:List (Nat×Nat)) (n:Nat) {P:Program} {fn:Nat} {fo:Operand} {cap:List AV} {xs:Array Operand} {tys:Array TypeId} {al:List AV} {r r1:AV} {bs bs2:List Bx} {b1 bf b3:List Sl} (hc:AC P fn al bs (fun v bs'=>v=r/\bs'=bs2)) (K:AP P X ops Q rest (AS.put ⟨s.t,(opnR r1 b3).2⟩ o.dst (opnR r1 b3).1))
 (hg:o.guard=none:=by exact rfl) (ho:o.op=.call { callee:=.value fo,args:=xs,argTypes:=tys }:=by exact rfl) (hfo:aev s fo=.fn fn cap:=by exact rfl)
 (hp:PasC false ks [] s.b (fnA cap (xs.toList.map (aev s))) al b1:=by ((repeat' (first|exact PasC.nil|apply PasC.nil|apply PasC.cons|apply PasV.leaf rfl|apply PasV.nl|apply PasV.bp rfl|apply PasV.vp rfl|apply PasV.pz|exact VsM.nil|apply VsM.cons rfl|apply PasV.lend rfl rfl rfl|apply PasV.lend rfl rfl (ro_B _)|apply PasV.lend rfl rfl (ro_M _)|apply PasV.lend rfl rfl (ro_E _ _)|apply PasV.lend rfl rfl (ro_I _)|apply PasV.lend rfl rfl (by (simp only [rn,List.map_cons,List.map_nil];first|done|rfl))|apply PasV.lend rfl rfl (by assumption)|apply PasV.lsb rfl rfl rfl rfl (by (first|assumption|exact rfl))|apply PasV.mv rfl|apply PasV.hk rfl|apply PasV.ag|apply PasV.fn|exact PasV.fs|apply PasV.any|exact rfl));all_goals fail)) (hout:Out b1 ks bs bf:=by ((repeat' (first|exact ClsC.nil|apply ClsC.nl|apply ClsC.leaf rfl|apply ClsC.hd rfl|apply ClsC.ob rfl|apply ClsC.mo rfl|apply ClsC.mp rfl|apply ClsC.hp rfl|exact Out.nil|apply Out.cons rfl|apply Out.r rfl|apply Out.f rfl|apply ClsC.fn|apply ClsC.fz rfl (ro_B _)|apply ClsC.fz rfl (ro_M _)|apply ClsC.fz rfl (ro_E _ _)|apply ClsC.fz rfl rfl));all_goals fail)) (hl:Nat.beq bs2.length (ks.length + n)=true:=by exact rfl) (hbk:Bk (plc n bf).2 (ks ++ (plc n bf).1) bs2 b3:=by ((repeat' (first|exact Bk.nil|apply Bk.cF rfl rfl|(apply Bk.cN rfl;(try refine NX ?_);apply BkN.mk rfl)|apply Bk.r rfl));all_goals fail)) (hrn:RnV (ks ++ (plc n bf).1) r r1:=by ((repeat' (first|exact RnV.leaf rfl|exact RnV.fs|exact RnC.nil|apply RnC.cons|apply RnV.ag|apply RnV.tu|apply RnV.fn|exact RnV.bp rfl));all_goals fail)) (hfl:r1.fl2b=true:=by exact rfl):AP P X ops Q (o :: rest) s:=ap_callB n ks hg ho hfo hc hp hout hl hbk hrn hfl K
theorem AP.A {P:Program} {fn:Nat} {fo:Operand} {cap:List AV} {xs:Array Operand} {tys:Array TypeId} {al:List AV} {r:AV} {bf:List Sl} (K:AP P X ops Q rest (AS.put ⟨s.t,(opnR r bf).2⟩ o.dst (opnR r bf).1))
 (hg:o.guard=none:=by exact rfl) (ho:o.op=.call { callee:=.value fo,args:=xs,argTypes:=tys }:=by exact rfl) (hfo:aev s fo=.fn fn cap:=by exact rfl) (hc:AC P fn al [] (fun v bs'=>v=r/\bs'=[]):=by with_reducible assumption)
 (hp:PasC false [] [] s.b (fnA cap (xs.toList.map (aev s))) al bf:=by ((repeat' (first|exact PasC.nil|apply PasC.nil|apply PasC.cons|apply PasV.leaf rfl|apply PasV.nl|apply PasV.bp rfl|apply PasV.vp rfl|apply PasV.pz|exact VsM.nil|apply VsM.cons rfl|apply PasV.lend rfl rfl rfl|apply PasV.lend rfl rfl (ro_B _)|apply PasV.lend rfl rfl (ro_M _)|apply PasV.lend rfl rfl (ro_E _ _)|apply PasV.lend rfl rfl (ro_I _)|apply PasV.lend rfl rfl (by (simp only [rn,List.map_cons,List.map_nil];first|done|rfl))|apply PasV.lend rfl rfl (by assumption)|apply PasV.lsb rfl rfl rfl rfl (by (first|assumption|exact rfl))|apply PasV.mv rfl|apply PasV.hk rfl|apply PasV.ag|apply PasV.fn|exact PasV.fs|apply PasV.any|exact rfl));all_goals fail)) (hnb:r.nb=true:=by exact rfl) (hfl:r.fl2b=true:=by exact rfl):AP P X ops Q (o :: rest) s:=ap_callX hg ho hfo hc hp hnb hfl K
theorem AP.AB (n:Nat) {P:Program} {fn:Nat} {fo:Operand} {cap:List AV} {xs:Array Operand} {tys:Array TypeId} {al:List AV} {r r1:AV} {bs bs2:List Bx} {b1 bf b3:List Sl} {ks:List (Nat×Nat)} (K:AP P X ops Q rest (AS.put ⟨s.t,(opnR r1 b3).2⟩ o.dst (opnR r1 b3).1))
 (hg:o.guard=none:=by exact rfl) (ho:o.op=.call { callee:=.value fo,args:=xs,argTypes:=tys }:=by exact rfl) (hfo:aev s fo=.fn fn cap:=by exact rfl) (hc:AC P fn al bs (fun v bs'=>v=r/\bs'=bs2):=by with_reducible assumption) (hks:ksA al (fnA cap (xs.toList.map (aev s))) bs.length=ks:=by exact rfl)
 (hl:Nat.beq bs2.length (bs.length + n)=true:=by exact rfl) (hp:PasC false ks [] s.b (fnA cap (xs.toList.map (aev s))) al b1:=by ((repeat' (first|exact PasC.nil|apply PasC.nil|apply PasC.cons|apply PasV.leaf rfl|apply PasV.nl|apply PasV.bp rfl|apply PasV.vp rfl|apply PasV.pz|exact VsM.nil|apply VsM.cons rfl|apply PasV.lend rfl rfl rfl|apply PasV.lend rfl rfl (ro_B _)|apply PasV.lend rfl rfl (ro_M _)|apply PasV.lend rfl rfl (ro_E _ _)|apply PasV.lend rfl rfl (ro_I _)|apply PasV.lend rfl rfl (by (simp only [rn,List.map_cons,List.map_nil];first|done|rfl))|apply PasV.lend rfl rfl (by assumption)|apply PasV.lsb rfl rfl rfl rfl (by (first|assumption|exact rfl))|apply PasV.mv rfl|apply PasV.hk rfl|apply PasV.ag|apply PasV.fn|exact PasV.fs|apply PasV.any|exact rfl));all_goals fail)) (hout:Out b1 ks bs bf:=by ((repeat' (first|exact ClsC.nil|apply ClsC.nl|apply ClsC.leaf rfl|apply ClsC.hd rfl|apply ClsC.ob rfl|apply ClsC.mo rfl|apply ClsC.mp rfl|apply ClsC.hp rfl|exact Out.nil|apply Out.cons rfl|apply Out.r rfl|apply Out.f rfl|apply ClsC.fn|apply ClsC.fz rfl (ro_B _)|apply ClsC.fz rfl (ro_M _)|apply ClsC.fz rfl (ro_E _ _)|apply ClsC.fz rfl rfl));all_goals fail)) (hl2:Nat.beq ks.length bs.length=true:=by exact rfl) (hbk:Bk (plc n bf).2 (ks ++ (plc n bf).1) bs2 b3:=by ((repeat' (first|exact Bk.nil|apply Bk.cF rfl rfl|(apply Bk.cN rfl;(try refine NX ?_);apply BkN.mk rfl)|apply Bk.r rfl));all_goals fail)) (hrn:RnV (ks ++ (plc n bf).1) r r1:=by ((repeat' (first|exact RnV.leaf rfl|exact RnV.fs|exact RnC.nil|apply RnC.cons|apply RnV.ag|apply RnV.tu|apply RnV.fn|exact RnV.bp rfl));all_goals fail)) (hfl:r1.fl2b=true:=by exact rfl):AP P X ops Q (o :: rest) s:=ap_callB n ks hg ho hfo hc hp hout (by rw [Nat.eq_of_beq_eq_true hl2];exact hl) hbk hrn hfl K
theorem AP.B (n:Nat) {P:Program} {fn:Nat} {fo:Operand} {cap:List AV} {xs:Array Operand} {tys:Array TypeId} {al:List AV} {r r1:AV} {bs bs2:List Bx} {b1 bf b3:List Sl} {ks:List (Nat×Nat)} (hc:AC P fn al bs (fun v bs'=>v=r/\bs'=bs2)) (K:AP P X ops Q rest (AS.put ⟨s.t,(opnR r1 b3).2⟩ o.dst (opnR r1 b3).1))
 (hg:o.guard=none:=by exact rfl) (ho:o.op=.call { callee:=.value fo,args:=xs,argTypes:=tys }:=by exact rfl) (hfo:aev s fo=.fn fn cap:=by exact rfl) (hks:ksA al (fnA cap (xs.toList.map (aev s))) bs.length=ks:=by exact rfl)
 (hl:Nat.beq bs2.length (bs.length + n)=true:=by exact rfl) (hp:PasC false ks [] s.b (fnA cap (xs.toList.map (aev s))) al b1:=by ((repeat' (first|exact PasC.nil|apply PasC.nil|apply PasC.cons|apply PasV.leaf rfl|apply PasV.nl|apply PasV.bp rfl|apply PasV.vp rfl|apply PasV.pz|exact VsM.nil|apply VsM.cons rfl|apply PasV.lend rfl rfl rfl|apply PasV.lend rfl rfl (ro_B _)|apply PasV.lend rfl rfl (ro_M _)|apply PasV.lend rfl rfl (ro_E _ _)|apply PasV.lend rfl rfl (ro_I _)|apply PasV.lend rfl rfl (by (simp only [rn,List.map_cons,List.map_nil];first|done|rfl))|apply PasV.lend rfl rfl (by assumption)|apply PasV.lsb rfl rfl rfl rfl (by (first|assumption|exact rfl))|apply PasV.mv rfl|apply PasV.hk rfl|apply PasV.ag|apply PasV.fn|exact PasV.fs|apply PasV.any|exact rfl));all_goals fail)) (hout:Out b1 ks bs bf:=by ((repeat' (first|exact ClsC.nil|apply ClsC.nl|apply ClsC.leaf rfl|apply ClsC.hd rfl|apply ClsC.ob rfl|apply ClsC.mo rfl|apply ClsC.mp rfl|apply ClsC.hp rfl|exact Out.nil|apply Out.cons rfl|apply Out.r rfl|apply Out.f rfl|apply ClsC.fn|apply ClsC.fz rfl (ro_B _)|apply ClsC.fz rfl (ro_M _)|apply ClsC.fz rfl (ro_E _ _)|apply ClsC.fz rfl rfl));all_goals fail)) (hl2:Nat.beq ks.length bs.length=true:=by exact rfl) (hbk:Bk (plc n bf).2 (ks ++ (plc n bf).1) bs2 b3:=by ((repeat' (first|exact Bk.nil|apply Bk.cF rfl rfl|(apply Bk.cN rfl;(try refine NX ?_);apply BkN.mk rfl)|apply Bk.r rfl));all_goals fail)) (hrn:RnV (ks ++ (plc n bf).1) r r1:=by ((repeat' (first|exact RnV.leaf rfl|exact RnV.fs|exact RnC.nil|apply RnC.cons|apply RnV.ag|apply RnV.tu|apply RnV.fn|exact RnV.bp rfl));all_goals fail)) (hfl:r1.fl2b=true:=by exact rfl):AP P X ops Q (o :: rest) s:=ap_callB n ks hg ho hfo hc hp hout (by rw [Nat.eq_of_beq_eq_true hl2];exact hl) hbk hrn hfl K
theorem AP.AL {P:Program} {fn:Nat} {fo:Operand} {cap:List AV} {xs:Array Operand} {tys:Array TypeId} {al:List AV} {r:AV} (K:AP P X ops Q rest (AS.put ⟨s.t,(opnR r s.b).2⟩ o.dst (opnR r s.b).1))
 (hg:o.guard=none:=by exact rfl) (ho:o.op=.call { callee:=.value fo,args:=xs,argTypes:=tys }:=by exact rfl) (hfo:aev s fo=.fn fn cap:=by exact rfl) (hc:AC P fn al [] (fun v bs'=>v=r/\bs'=[]):=by with_reducible assumption)
 (hp:PasC true [] s.b s.b (fnA cap (xs.toList.map (aev s))) al s.b:=by ((repeat' (first|exact PasC.nil|apply PasC.nil|apply PasC.cons|apply PasV.leaf rfl|apply PasV.nl|apply PasV.bp rfl|apply PasV.vp rfl|apply PasV.pz|exact VsM.nil|apply VsM.cons rfl|apply PasV.lend rfl rfl rfl|apply PasV.lend rfl rfl (ro_B _)|apply PasV.lend rfl rfl (ro_M _)|apply PasV.lend rfl rfl (ro_E _ _)|apply PasV.lend rfl rfl (ro_I _)|apply PasV.lend rfl rfl (by (simp only [rn,List.map_cons,List.map_nil];first|done|rfl))|apply PasV.lend rfl rfl (by assumption)|apply PasV.lsb rfl rfl rfl rfl (by (first|assumption|exact rfl))|apply PasV.mv rfl|apply PasV.hk rfl|apply PasV.ag|apply PasV.fn|exact PasV.fs|apply PasV.any|exact rfl));all_goals fail)) (hnr:NR r:=by (first|exact NR.sc|exact NR.ni|exact NR.de|exact nr_B|(apply NR.ag;intro a ha;simp only [List.mem_cons,List.not_mem_nil,or_false] at ha;rcases ha with rfl|rfl|rfl|rfl|rfl|rfl|rfl|rfl|rfl|rfl|rfl|rfl<;>first|exact NR.sc|exact NR.ni|exact NR.de|exact nr_B))) (hnb:r.nb=true:=by exact rfl) (hfl:r.fl2b=true:=by exact rfl):AP P X ops Q (o :: rest) s:=ap_callL hg ho hfo hc hp hnr hnb hfl K
theorem AC.N {fn:Nat} {F:Func} {c:Code} {nt:Nat} {args:List AV} {bs:List Bx} {Q:AV->List Bx->Prop} {b1:List Sl} (hf:prog.funcs[fn]? = some F) (hnt:F.ntmps=nt) (K:∀ X:Cx,X.ρ=none->X.mks=true->CP prog X c (RetQ F (bs.map Bx.isR) Q) ⟨(opnL args b1).1 ++ List.replicate (nt - args.length) (.tu []),(opnL args b1).2⟩)
 (hb:F.body=some c:=by exact rfl) (hname:(F.name == "runtime.NumGoroutine")=false:=by exact rfl) (hfl:∀ x∈args,x.fl1:=by exact fl1_all rfl) (hbk:Bk (List.replicate bs.length ⟨0,.o⟩) ((List.range bs.length).map fun i=>(i,0)) bs b1:=by ((repeat' (first|exact Bk.nil|apply Bk.cF rfl rfl|(apply Bk.cN rfl;(try refine NX ?_);apply BkN.mk rfl)|apply Bk.r rfl));all_goals fail)):AC prog fn args bs Q:=AC.enter hf hb hname hnt hfl hbk K
theorem AC.E {fn:Nat} {F:Func} {nt:Nat} {args:List AV} {bs:List Bx} {Q:AV->List Bx->Prop} {K':Cx->Prop} (hf:prog.funcs[fn]? = some F) (hnt:F.ntmps=nt) (K:∀ X:Cx,X.ρ=none->X.mks=true->K' X) (h:prog.funcs[fn]? = some F->F.ntmps=nt->(∀ X:Cx,X.ρ=none->X.mks=true->K' X)->AC prog fn args bs Q:=by (intro p q k;refine AC.N p q fun X a b=>NX (k X a b))):AC prog fn args bs Q:=h hf hnt K
section
variable {F:Func} {n:List Bool} {Q:AV->List Bx->Prop} {e:Exit} {vs:List AV} {r1 r:AV} {b1 b2:List Sl} {bs':List Bx}
theorem RetQ.B (ks:List (Nat×Nat)) (hq:Q r bs') (he:e=.normal\/e=.ret:=by first|exact .inr rfl|exact .inl rfl) (hl:ResL s F.results.toList vs:=by ((repeat' (first|exact RnV.leaf rfl|exact RnV.fs|exact RnC.nil|apply RnC.cons|apply RnV.ag|apply RnV.tu|apply RnV.fn|exact RnV.bp rfl|exact ResL.nil|apply ResL.cons (Res1.row rfl rfl rfl rfl rfl)|apply ResL.cons (Res1.flat rfl rfl rfl rfl rfl)|apply ResL.cons (Res1.tmp (by (try simp only [List.getD_cons_succ,List.getD_cons_zero]);exact rfl))|exact ClsC.nil|exact ClsL.nil|apply ClsC.nl|apply ClsC.leaf rfl|apply ClsC.hd rfl|apply ClsC.ob rfl|apply ClsC.mo rfl|apply ClsC.mp rfl|apply ClsC.hp rfl|apply ClsC.fn|apply ClsR.tu|apply ClsL.cons|apply ClsV.ag|exact ClsV.bp|exact ClsV.fs|exact ClsV.one (ClsC.leaf rfl ClsC.nil)|exact ClsV.one (ClsC.nl ClsC.nil)|exact ClsV.one (ClsC.hd rfl ClsC.nil)|apply ClsR.one|exact Out.nil|apply Out.cons rfl|apply Out.r rfl|apply Out.f rfl|exact hks_of rfl|exact ClsV.fn));all_goals fail)) (hc:ClsR s.b (resV vs) r1 b1:=by ((repeat' (first|exact RnV.leaf rfl|exact RnV.fs|exact RnC.nil|apply RnC.cons|apply RnV.ag|apply RnV.tu|apply RnV.fn|exact RnV.bp rfl|exact ResL.nil|apply ResL.cons (Res1.row rfl rfl rfl rfl rfl)|apply ResL.cons (Res1.flat rfl rfl rfl rfl rfl)|apply ResL.cons (Res1.tmp (by (try simp only [List.getD_cons_succ,List.getD_cons_zero]);exact rfl))|exact ClsC.nil|exact ClsL.nil|apply ClsC.nl|apply ClsC.leaf rfl|apply ClsC.hd rfl|apply ClsC.ob rfl|apply ClsC.mo rfl|apply ClsC.mp rfl|apply ClsC.hp rfl|apply ClsC.fn|apply ClsR.tu|apply ClsL.cons|apply ClsV.ag|exact ClsV.bp|exact ClsV.fs|exact ClsV.one (ClsC.leaf rfl ClsC.nil)|exact ClsV.one (ClsC.nl ClsC.nil)|exact ClsV.one (ClsC.hd rfl ClsC.nil)|apply ClsR.one|exact Out.nil|apply Out.cons rfl|apply Out.r rfl|apply Out.f rfl|exact hks_of rfl|exact ClsV.fn));all_goals fail)) (hr:RnV (mskK s.b.length n ks) r r1:=by ((repeat' (first|exact RnV.leaf rfl|exact RnV.fs|exact RnC.nil|apply RnC.cons|apply RnV.ag|apply RnV.tu|apply RnV.fn|exact RnV.bp rfl|exact ResL.nil|apply ResL.cons (Res1.row rfl rfl rfl rfl rfl)|apply ResL.cons (Res1.flat rfl rfl rfl rfl rfl)|apply ResL.cons (Res1.tmp (by (try simp only [List.getD_cons_succ,List.getD_cons_zero]);exact rfl))|exact ClsC.nil|exact ClsL.nil|apply ClsC.nl|apply ClsC.leaf rfl|apply ClsC.hd rfl|apply ClsC.ob rfl|apply ClsC.mo rfl|apply ClsC.mp rfl|apply ClsC.hp rfl|apply ClsC.fn|apply ClsR.tu|apply ClsL.cons|apply ClsV.ag|exact ClsV.bp|exact ClsV.fs|exact ClsV.one (ClsC.leaf rfl ClsC.nil)|exact ClsV.one (ClsC.nl ClsC.nil)|exact ClsV.one (ClsC.hd rfl ClsC.nil)|apply ClsR.one|exact Out.nil|apply Out.cons rfl|apply Out.r rfl|apply Out.f rfl|exact hks_of rfl|exact ClsV.fn));all_goals fail)) (ho:Out b1 ks bs' b2:=by ((repeat' (first|exact RnV.leaf rfl|exact RnV.fs|exact RnC.nil|apply RnC.cons|apply RnV.ag|apply RnV.tu|apply RnV.fn|exact RnV.bp rfl|exact ResL.nil|apply ResL.cons (Res1.row rfl rfl rfl rfl rfl)|apply ResL.cons (Res1.flat rfl rfl rfl rfl rfl)|apply ResL.cons (Res1.tmp (by (try simp only [List.getD_cons_succ,List.getD_cons_zero]);exact rfl))|exact ClsC.nil|exact ClsL.nil|apply ClsC.nl|apply ClsC.leaf rfl|apply ClsC.hd rfl|apply ClsC.ob rfl|apply ClsC.mo rfl|apply ClsC.mp rfl|apply ClsC.hp rfl|apply ClsC.fn|apply ClsR.tu|apply ClsL.cons|apply ClsV.ag|exact ClsV.bp|exact ClsV.fs|exact ClsV.one (ClsC.leaf rfl ClsC.nil)|exact ClsV.one (ClsC.nl ClsC.nil)|exact ClsV.one (ClsC.hd rfl ClsC.nil)|apply ClsR.one|exact Out.nil|apply Out.cons rfl|apply Out.r rfl|apply Out.f rfl|exact hks_of rfl|exact ClsV.fn));all_goals fail))
 (hk:∀ i,i < n.length->ks[i]? = some (i,0):=by exact hks_of rfl) (hkk:kOk n bs'=true:=by exact rfl):RetQ F n Q e s:=.mk2 he hl hc hr ho hk hkk hq
theorem RetQ.A (ks:List (Nat×Nat)) (hq:Q r bs') (he:e=.normal\/e=.ret:=by first|exact .inr rfl|exact .inl rfl) (hr:RnV (mskK s.b.length n ks) r r1:=by ((repeat' (first|exact RnV.leaf rfl|exact RnV.fs|exact RnC.nil|apply RnC.cons|apply RnV.ag|apply RnV.tu|apply RnV.fn|exact RnV.bp rfl|exact ResL.nil|apply ResL.cons (Res1.row rfl rfl rfl rfl rfl)|apply ResL.cons (Res1.flat rfl rfl rfl rfl rfl)|apply ResL.cons (Res1.tmp (by (try simp only [List.getD_cons_succ,List.getD_cons_zero]);exact rfl))|exact ClsC.nil|exact ClsL.nil|apply ClsC.nl|apply ClsC.leaf rfl|apply ClsC.hd rfl|apply ClsC.ob rfl|apply ClsC.mo rfl|apply ClsC.mp rfl|apply ClsC.hp rfl|apply ClsC.fn|apply ClsR.tu|apply ClsL.cons|apply ClsV.ag|exact ClsV.bp|exact ClsV.fs|exact ClsV.one (ClsC.leaf rfl ClsC.nil)|exact ClsV.one (ClsC.nl ClsC.nil)|exact ClsV.one (ClsC.hd rfl ClsC.nil)|apply ClsR.one|exact Out.nil|apply Out.cons rfl|apply Out.r rfl|apply Out.f rfl|exact hks_of rfl|exact ClsV.fn));all_goals fail)) (hl:ResL s F.results.toList vs:=by ((repeat' (first|exact RnV.leaf rfl|exact RnV.fs|exact RnC.nil|apply RnC.cons|apply RnV.ag|apply RnV.tu|apply RnV.fn|exact RnV.bp rfl|exact ResL.nil|apply ResL.cons (Res1.row rfl rfl rfl rfl rfl)|apply ResL.cons (Res1.flat rfl rfl rfl rfl rfl)|apply ResL.cons (Res1.tmp (by (try simp only [List.getD_cons_succ,List.getD_cons_zero]);exact rfl))|exact ClsC.nil|exact ClsL.nil|apply ClsC.nl|apply ClsC.leaf rfl|apply ClsC.hd rfl|apply ClsC.ob rfl|apply ClsC.mo rfl|apply ClsC.mp rfl|apply ClsC.hp rfl|apply ClsC.fn|apply ClsR.tu|apply ClsL.cons|apply ClsV.ag|exact ClsV.bp|exact ClsV.fs|exact ClsV.one (ClsC.leaf rfl ClsC.nil)|exact ClsV.one (ClsC.nl ClsC.nil)|exact ClsV.one (ClsC.hd rfl ClsC.nil)|apply ClsR.one|exact Out.nil|apply Out.cons rfl|apply Out.r rfl|apply Out.f rfl|exact hks_of rfl|exact ClsV.fn));all_goals fail)) (hc:ClsR s.b (resV vs) r1 b1:=by ((repeat' (first|exact RnV.leaf rfl|exact RnV.fs|exact RnC.nil|apply RnC.cons|apply RnV.ag|apply RnV.tu|apply RnV.fn|exact RnV.bp rfl|exact ResL.nil|apply ResL.cons (Res1.row rfl rfl rfl rfl rfl)|apply ResL.cons (Res1.flat rfl rfl rfl rfl rfl)|apply ResL.cons (Res1.tmp (by (try simp only [List.getD_cons_succ,List.getD_cons_zero]);exact rfl))|exact ClsC.nil|exact ClsL.nil|apply ClsC.nl|apply ClsC.leaf rfl|apply ClsC.hd rfl|apply ClsC.ob rfl|apply ClsC.mo rfl|apply ClsC.mp rfl|apply ClsC.hp rfl|apply ClsC.fn|apply ClsR.tu|apply ClsL.cons|apply ClsV.ag|exact ClsV.bp|exact ClsV.fs|exact ClsV.one (ClsC.leaf rfl ClsC.nil)|exact ClsV.one (ClsC.nl ClsC.nil)|exact ClsV.one (ClsC.hd rfl ClsC.nil)|apply ClsR.one|exact Out.nil|apply Out.cons rfl|apply Out.r rfl|apply Out.f rfl|exact hks_of rfl|exact ClsV.fn));all_goals fail)) (ho:Out b1 ks bs' b2:=by ((repeat' (first|exact RnV.leaf rfl|exact RnV.fs|exact RnC.nil|apply RnC.cons|apply RnV.ag|apply RnV.tu|apply RnV.fn|exact RnV.bp rfl|exact ResL.nil|apply ResL.cons (Res1.row rfl rfl rfl rfl rfl)|apply ResL.cons (Res1.flat rfl rfl rfl rfl rfl)|apply ResL.cons (Res1.tmp (by (try simp only [List.getD_cons_succ,List.getD_cons_zero]);exact rfl))|exact ClsC.nil|exact ClsL.nil|apply ClsC.nl|apply ClsC.leaf rfl|apply ClsC.hd rfl|apply ClsC.ob rfl|apply ClsC.mo rfl|apply ClsC.mp rfl|apply ClsC.hp rfl|apply ClsC.fn|apply ClsR.tu|apply ClsL.cons|apply ClsV.ag|exact ClsV.bp|exact ClsV.fs|exact ClsV.one (ClsC.leaf rfl ClsC.nil)|exact ClsV.one (ClsC.nl ClsC.nil)|exact ClsV.one (ClsC.hd rfl ClsC.nil)|apply ClsR.one|exact Out.nil|apply Out.cons rfl|apply Out.r rfl|apply Out.f rfl|exact hks_of rfl|exact ClsV.fn));all_goals fail))
 (hk:∀ i,i < n.length->ks[i]? = some (i,0):=by exact hks_of rfl) (hkk:kOk n bs'=true:=by exact rfl):RetQ F n Q e s:=.mk2 he hl hc hr ho hk hkk hq
end
theorem Gh.W {t:List AV} {b:List Sl} (h:Wks s ⟨t,b⟩:=by ((try refine ST0 ?_);(refine ⟨?_,?_⟩<;>(try dsimp only)<;>(repeat' (first|exact Wk.nil|exact WkB.nil|apply Wk.same|apply Wk.de|apply Wk.nl|apply WkB.same|apply WkB.drop)));all_goals fail)):Gh s ⟨t,b⟩:=gh_wk h
end
theorem CP.go {G G':Prop} (K:G') (h:G'->G:=by (intro k;(with_reducible first|refine cp_block ?_|refine cp_exit ?_|refine cp_ret ?_|refine cp_skip ?_|refine cp_seq ?_|refine inB_hit ?_|refine inB_n ?_|refine inB_r ?_|refine thenQ_n ?_|refine thenQ_r ?_|refine thenQ_e ?_|refine cpn_succ ?_|refine inB_miss rfl ?_);(repeat (with_reducible first|refine cp_block ?_|refine cp_exit ?_|refine cp_ret ?_|refine cp_skip ?_|refine cp_seq ?_|refine inB_hit ?_|refine inB_n ?_|refine inB_r ?_|refine thenQ_n ?_|refine thenQ_r ?_|refine thenQ_e ?_|refine cpn_succ ?_|refine inB_miss rfl ?_));exact k)):G:=h K
theorem CP.W {G G':Prop} (K:G') (h:G'->G:=by (intro k;first|(with_reducible apply CP.k_reg1;exact cp_region k)|(with_reducible apply CP.k_cond;first|exact cp_condT rfl k|exact cp_condF rfl k)|exact CP.go k)):G:=h K
section
variable {s:AS} {ops:Array Oper} {all:List Oper} {K:AS->Prop} {acc:List Fp} {l:List Oper} {av:AV} {op:Op} {ty:Nat} {pos:String} {aft:Array Edge} {g:Option (Nat×Bool)} {d:Nat} {T:List Nat} {F:List Nat} {b2:List Sl} {r:Bool}
theorem DW.R (hk:DW prog ops all K (⟨T,some d,F,false⟩ :: acc) l ⟨s.t.set d av,s.b⟩) (hg:gdS ops s g=some r:=by exact rfl) (hT:opTs ops ⟨some d,op,ty,pos,aft,g⟩=T:=by (simp only [ft,nm,Nat.reduceAdd,Nat.reduceBEq,List.getElem?_cons_zero,List.getElem?_cons_succ];exact rfl)) (hF:ftF 0 s op=F:=by (simp only [ft,nm,Nat.reduceAdd,Nat.reduceBEq,List.getElem?_cons_zero,List.getElem?_cons_succ];exact rfl)) (h:∀ X V,AP prog X ops (fun e s'=>e=.normal/\s'=⟨(msT T 0 s.t).set d av,msB F V 0 s.b⟩) [⟨some d,op,ty,pos,aft,g⟩] ⟨msT T 0 s.t,msB F V 0 s.b⟩:=by (intro X V;simp only [ft,nm,Nat.reduceAdd,Nat.reduceBEq];(first|refine AP.S ?_|((try (refine AP.Y ?_;dsimp only));first|refine AP.E ?_|refine AP.T ?_|refine AP.F0 ?_));(try refine NX ?_);refine AP.nil ?_;first|exact ⟨trivial,rfl⟩|exact ⟨rfl,rfl⟩)) (hy:nyF F 0 s.b=true:=by exact rfl) :
 DW prog ops all K acc (⟨some d,op,ty,pos,aft,g⟩ :: l) s:=DW.rd 0 hT hF h hk hy
theorem DW.R' (hk:DW prog ops all K (⟨T,none,F,false⟩ :: acc) l s) (hg:gdS ops s g=some r:=by exact rfl) (hT:opTs ops ⟨none,op,ty,pos,aft,g⟩=T:=by (simp only [ft,nm,Nat.reduceAdd,Nat.reduceBEq,List.getElem?_cons_zero,List.getElem?_cons_succ];exact rfl)) (hF:ftF 0 s op=F:=by (simp only [ft,nm,Nat.reduceAdd,Nat.reduceBEq,List.getElem?_cons_zero,List.getElem?_cons_succ];exact rfl)) (h:∀ X V,AP prog X ops (fun e s'=>e=.normal/\s'=⟨msT T 0 s.t,msB F V 0 s.b⟩) [⟨none,op,ty,pos,aft,g⟩] ⟨msT T 0 s.t,msB F V 0 s.b⟩:=by (intro X V;simp only [ft,nm,Nat.reduceAdd,Nat.reduceBEq];(first|refine AP.S ?_|((try (refine AP.Y ?_;dsimp only));refine AP.E ?_));(try refine NX ?_);refine AP.nil ?_;first|exact ⟨trivial,rfl⟩|exact ⟨rfl,rfl⟩)) (hy:nyF F 0 s.b=true:=by exact rfl) :
 DW prog ops all K acc (⟨none,op,ty,pos,aft,g⟩ :: l) s:=DW.rdN 0 hT hF h hk hy
theorem DW.W (hk:DW prog ops all K (⟨T,some d,F,true⟩ :: acc) l ⟨s.t.set d av,b2⟩) (hg:gdS ops s g=some r:=by exact rfl) (hT:opTs ops ⟨some d,op,ty,pos,aft,g⟩=T:=by (simp only [ft,nm,Nat.reduceAdd,Nat.reduceBEq,List.getElem?_cons_zero,List.getElem?_cons_succ];exact rfl)) (hF:ftF 1 s op=F:=by (simp only [ft,nm,Nat.reduceAdd,Nat.reduceBEq,List.getElem?_cons_zero,List.getElem?_cons_succ];exact rfl)) (h:∀ X V,AP prog X ops (fun e s'=>e=.normal/\s'.t=(msT T 0 s.t).set d av/\Mg F V 0 s.b s'.b b2) [⟨some d,op,ty,pos,aft,g⟩] ⟨msT T 0 s.t,msB F V 0 s.b⟩:=by (intro X V;simp only [ft,nm,Nat.reduceAdd,Nat.reduceBEq];(first|refine AP.S ?_|((try (refine AP.Y ?_;dsimp only));first|refine AP.E ?_|refine AP.T ?_));(try refine NX ?_);refine AP.nil ?_;(first|refine ⟨trivial,rfl,?_⟩|refine ⟨rfl,rfl,?_⟩);(repeat' (first|exact Mg.nil|apply Mg.keep rfl|apply Mg.take rfl));all_goals fail))
 (hb:(∃ V:Nat->Nat,∃ b1,Mg F V 0 s.b b1 b2):=by (refine Exists.intro (fun _=>0) ?_;apply Exists.intro;(repeat' (first|exact Mg.nil|apply Mg.keep rfl|apply Mg.take rfl));all_goals fail)) (hy:nyF F 0 s.b=true:=by exact rfl) (hy2:nyF F 0 b2=true:=by exact rfl):DW prog ops all K acc (⟨some d,op,ty,pos,aft,g⟩ :: l) s:=DW.st 1 hT hF h hb hk hy hy2
theorem DW.W' (hk:DW prog ops all K (⟨T,none,F,true⟩ :: acc) l ⟨s.t,b2⟩) (hg:gdS ops s g=some r:=by exact rfl) (hT:opTs ops ⟨none,op,ty,pos,aft,g⟩=T:=by (simp only [ft,nm,Nat.reduceAdd,Nat.reduceBEq,List.getElem?_cons_zero,List.getElem?_cons_succ];exact rfl)) (hF:ftF 1 s op=F:=by (simp only [ft,nm,Nat.reduceAdd,Nat.reduceBEq,List.getElem?_cons_zero,List.getElem?_cons_succ];exact rfl)) (h:∀ X V,AP prog X ops (fun e s'=>e=.normal/\s'.t=msT T 0 s.t/\Mg F V 0 s.b s'.b b2) [⟨none,op,ty,pos,aft,g⟩] ⟨msT T 0 s.t,msB F V 0 s.b⟩:=by (intro X V;simp only [ft,nm,Nat.reduceAdd,Nat.reduceBEq];(first|refine AP.S ?_|((try (refine AP.Y ?_;dsimp only));first|refine AP.E ?_|refine AP.T ?_));(try refine NX ?_);refine AP.nil ?_;(first|refine ⟨trivial,rfl,?_⟩|refine ⟨rfl,rfl,?_⟩);(repeat' (first|exact Mg.nil|apply Mg.keep rfl|apply Mg.take rfl));all_goals fail))
 (hb:(∃ V:Nat->Nat,∃ b1,Mg F V 0 s.b b1 b2):=by (refine Exists.intro (fun _=>0) ?_;apply Exists.intro;(repeat' (first|exact Mg.nil|apply Mg.keep rfl|apply Mg.take rfl));all_goals fail)) (hy:nyF F 0 s.b=true:=by exact rfl) (hy2:nyF F 0 b2=true:=by exact rfl):DW prog ops all K acc (⟨none,op,ty,pos,aft,g⟩ :: l) s:=DW.stN 1 hT hF h hb hk hy hy2
theorem DW.A (m:Nat) (hk:DW prog ops all K (⟨T,some d,F,true⟩ :: acc) l ⟨s.t.set d av,b2⟩) (hg:gdS ops s g=some r:=by exact rfl) (hT:opTs ops ⟨some d,op,ty,pos,aft,g⟩=T:=by (simp only [ft,nm,Nat.reduceAdd,Nat.reduceBEq,List.getElem?_cons_zero,List.getElem?_cons_succ];exact rfl)) (hF:ftF m s op=F:=by (simp only [ft,nm,Nat.reduceAdd,Nat.reduceBEq,List.getElem?_cons_zero,List.getElem?_cons_succ];exact rfl)) (h:∀ X V,AP prog X ops (fun e s'=>e=.normal/\s'.t=(msT T 0 s.t).set d av/\Mg F V 0 s.b s'.b b2) [⟨some d,op,ty,pos,aft,g⟩] ⟨msT T 0 s.t,msB F V 0 s.b⟩:=by (intro X V;simp only [ft,nm,Nat.reduceAdd,Nat.reduceBEq];(try (refine AP.Y ?_;dsimp only));(first|refine AP.A ?_|refine AP.AB 0 ?_|refine AP.AB 1 ?_|refine AP.AL ?_);(try refine NX ?_);refine AP.nil ?_;(first|refine ⟨trivial,rfl,?_⟩|refine ⟨rfl,rfl,?_⟩);(repeat' (first|exact Mg.nil|apply Mg.keep rfl|apply Mg.take rfl));all_goals fail))
 (hb:(∃ V:Nat->Nat,∃ b1,Mg F V 0 s.b b1 b2):=by (refine Exists.intro (fun _=>0) ?_;apply Exists.intro;(repeat' (first|exact Mg.nil|apply Mg.keep rfl|apply Mg.take rfl));all_goals fail)) (hy:nyF F 0 s.b=true:=by exact rfl) (hy2:nyF F 0 b2=true:=by exact rfl):DW prog ops all K acc (⟨some d,op,ty,pos,aft,g⟩ :: l) s:=DW.st m hT hF h hb hk hy hy2
theorem DW.RA (hk:DW prog ops all K (⟨T,some d,F,false⟩ :: acc) l ⟨s.t.set d av,s.b⟩) (hg:gdS ops s g=some r:=by exact rfl) (hT:opTs ops ⟨some d,op,ty,pos,aft,g⟩=T:=by (simp only [ft,nm,Nat.reduceAdd,Nat.reduceBEq,List.getElem?_cons_zero,List.getElem?_cons_succ];exact rfl)) (hF:ftF 0 s op=F:=by (simp only [ft,nm,Nat.reduceAdd,Nat.reduceBEq,List.getElem?_cons_zero,List.getElem?_cons_succ];exact rfl)) (h:∀ X V,AP prog X ops (fun e s'=>e=.normal/\s'=⟨(msT T 0 s.t).set d av,msB F V 0 s.b⟩) [⟨some d,op,ty,pos,aft,g⟩] ⟨msT T 0 s.t,msB F V 0 s.b⟩:=by (intro X V;simp only [ft,nm,Nat.reduceAdd,Nat.reduceBEq];(try (refine AP.Y ?_;dsimp only));(first|refine AP.A ?_|refine AP.AB 0 ?_|refine AP.AL ?_);(try refine NX ?_);refine AP.nil ?_;first|exact ⟨trivial,rfl⟩|exact ⟨rfl,rfl⟩)) (hy:nyF F 0 s.b=true:=by exact rfl) :
 DW prog ops all K acc (⟨some d,op,ty,pos,aft,g⟩ :: l) s:=DW.rd 0 hT hF h hk hy
theorem DW.nl (hk:K s) (h:okD all acc.reverse=true:=by kernel_rfl):DW prog ops all K acc [] s:=DW.nil h hk
end
theorem cp_drwX {X:Cx} {s:AS} {Q:Exit->AS->Prop} {id:Nat} {l:List Oper} {y:Code} (h:∀ Q':AS->Prop,(∀ s',CP prog X y Q s'->Q' s')->DW prog l.toArray l Q' [] l s) (hm:prog.follows .mixedOrders=true:=by kernel_rfl) (hf:fwdB 0 l=true:=by kernel_rfl):CP prog X (.seq (.region id l.toArray true) y) Q s:=cp_drwW hm hf h
theorem cp_drawX {X:Cx} {s:AS} {Q:Exit->AS->Prop} {id:Nat} {l:List Oper} (h:DW prog l.toArray l (fun s'=>Q .normal s') [] l s) (hm:prog.follows .mixedOrders=true:=by kernel_rfl) (hf:fwdB 0 l=true:=by kernel_rfl):CP prog X (.region id l.toArray true) Q s:=cp_drawW hm hf h
inductive Sh where
 | i (k:IntKind)
 | b
 | s
deriving DecidableEq
def eqV1:Value->Value->Bool
 | .int _ a,.int _ b=>a == b
 | .bool a,.bool b=>a == b
 | .string a,.string b=>a.toList == b.toList
 | _,_=>false
def eqVs:List Value->List Value->Bool
 | [],[]=>true
 | x :: l,y :: m=>eqV1 x y && eqVs l m
 | _,_=>false
def shC1:Sh->Value->Bool
 | .i k,.int k' _=>decide (k'=k)
 | .b,.bool _=>true
 | .s,.string _=>true
 | _,_=>false
def shC:List Sh->List Value->Bool
 | [],[]=>true
 | h :: l,v :: m=>shC1 h v && shC l m
 | _,_=>false
def repS (sh:List Sh):Nat->List Sh
 | 0=>[]
 | n + 1=>sh ++ repS sh n
def aggT (P:Program) (t:TypeId):Bool:=match P.underlying t with
 | some (.struct _)|some (.array _ _)=>true
 | _=>false
def flatFs (f:TypeId->Option (List Sh)):Nat->List Field->Option (List Sh)
 | _,[]=>some []
 | off,x :: l=>match x.name != "_" && Nat.beq x.offset off,f x.type with
  | true,some sh=>match flatFs f (off + sh.length) l with
   | some r=>some (sh ++ r)
   | none=>none
  | _,_=>none
def flatT (P:Program):Nat->TypeId->Option (List Sh)
 | 0,_=>none
 | d + 1,t=>match P.underlying t with
  | some .bool=>some [.b]
  | some (.int k)=>some [.i k]
  | some .string=>some [.s]
  | some (.array n e)=>match flatT P d e with
   | some sh=>match Nat.beq (P.cellsOf e) sh.length with
    | true=>some (repS sh n)
    | false=>none
   | none=>none
  | some (.struct fs)=>match P.stoodInHeld t with
   | true=>none
   | false=>flatFs (fun u=>match flatT P d u with
    | some sh=>match Nat.beq (P.cellsOf u) sh.length with
     | true=>some sh
     | false=>none
    | none=>none) 0 fs.toList
  | _=>none
theorem eqVs_append:∀ {a b c d:List Value},a.length=b.length->eqVs (a ++ c) (b ++ d)=(eqVs a b && eqVs c d)
 | [],[],c,d,_=>by simp [eqVs]
 | x :: a,y :: b,c,d,h=>by simp only [List.cons_append,eqVs];rw [eqVs_append (by simpa using h),Bool.and_assoc]
theorem shC_length:∀ {sh:List Sh} {vs:List Value},shC sh vs=true->vs.length=sh.length
 | [],[],_=>rfl
 | _ :: l,_ :: m,h=>by simp only [shC,Bool.and_eq_true] at h;simp [shC_length h.2]
theorem shC_split:∀ {a b:List Sh} {vs:List Value},shC (a ++ b) vs=true->shC a (vs.take a.length)=true/\shC b (vs.drop a.length)=true
 | [],b,vs,h=>⟨by simp [shC],by simpa using h⟩
 | x :: a,b,[],h=>by simp [shC] at h
 | x :: a,b,v :: vs,h=>by
  simp only [List.cons_append,shC,Bool.and_eq_true] at h;have:=shC_split h.2;simp only [List.length_cons,List.take_succ_cons,shC,Bool.and_eq_true,List.drop_succ_cons];exact ⟨⟨h.1,this.1⟩,this.2⟩
def valT (P:Program) (t:TypeId) (cs:List Value):Value:=match aggT P t with
 | true=>.agg cs.toArray
 | false=>cs.headD undef
section
variable {P:Program}
theorem run_part_flat {d:Nat} {e:TypeId} {sh:List Sh} (hf:flatT P d e=some sh) (hn:P.cellsOf e=sh.length) (w:World) (xs:List Value) (off:Nat) (h:shC sh ((xs.drop off).take sh.length)=true) :
 (part e xs.toArray off).run P w=.ok (valT P e ((xs.drop off).take sh.length)) w:=by
 have hl:=shC_length h
 cases d with
 | zero=>simp [flatT] at hf
 | succ d=>
  cases hu:P.underlying e with
  | none=>simp [flatT,hu] at hf
  | some kd=>
   obtain ⟨i,hi⟩:=info_of_underlying hu
   have agg:aggT P e=true->(part e xs.toArray off).run P w=.ok (valT P e ((xs.drop off).take sh.length)) w:=by
    intro ha
    have hk:(∃ n e',kd=.array n e')\/(∃ fs,kd=.struct fs):=by
     unfold aggT at ha;rw [hu] at ha
     cases kd<;>simp at ha<;>first|exact .inl ⟨_,_,rfl⟩|exact .inr ⟨_,rfl⟩
    have hs:(sizeOf e).run P w=.ok sh.length w:=by rw [run_sizeOf w hi,hn]
    unfold part valT;rw [ha]
    have hx:(xs.toArray.extract off (off + sh.length))=((xs.drop off).take sh.length).toArray:=by
     simp [List.extract_toArray,List.extract_eq_take_drop]
    rcases hk with ⟨n,e',rfl⟩|⟨fs,rfl⟩<;>simp [Sem.run_bind,isAgg,run_underlying hu,hs,hx,Result.andThen_ok]
   have one:aggT P e=false->sh.length=1->(part e xs.toArray off).run P w=.ok (valT P e ((xs.drop off).take sh.length)) w:=by
    intro ha h1
    have hk:(isAgg e).run P w=.ok false w:=by
     unfold aggT at ha;rw [hu] at ha
     cases kd<;>simp at ha<;>simp [isAgg,Sem.run_bind,run_underlying hu,Result.andThen_ok]
    rw [h1] at hl h ⊢;unfold part valT;rw [ha]
    obtain ⟨v,hv⟩:∃ v,xs[off]? = some v:=by
     rw [List.length_take,List.length_drop] at hl;exact ⟨_,List.getElem?_eq_getElem (by omega)⟩
    have hd:(xs.drop off).take 1=[v]:=by
     have h2:off < xs.length:=(List.getElem?_eq_some_iff.1 hv).1;rw [List.drop_eq_getElem_cons h2];rw [List.getElem?_eq_getElem h2] at hv;simp at hv;simp [hv]
    rw [hd];simp [Sem.run_bind,hk,Result.andThen_ok,hv]
   cases hA:aggT P e with
   | true=>exact agg hA
   | false=>
    refine one hA ?_;unfold flatT at hf;rw [hu] at hf;unfold aggT at hA;rw [hu] at hA
    cases kd<;>simp at hf hA<;>(subst hf;rfl)
def EqF (P:Program) (dd:Nat) (t:TypeId) (sh:List Sh):Prop:=
 ∀ (w:World) (xs ys:List Value),shC sh xs=true->shC sh ys=true->(Op.equalIn dd t (valT P t xs) (valT P t ys)).run P w=.ok (eqVs xs ys) w
theorem valT_agg {t:TypeId} {cs:List Value} (h:aggT P t=true):valT P t cs=.agg cs.toArray:=by unfold valT;rw [h]
theorem run_eqFields_flat {dd:Nat} {f:TypeId->Option (List Sh)} (hf:∀ u sh,f u=some sh->P.cellsOf u=sh.length/\(∃ d,flatT P d u=some sh)/\EqF P dd u sh) (xs ys:List Value) (w:World):∀ (fs:List Field) (off:Nat) (sh:List Sh),flatFs f off fs=some sh ->
 shC sh (xs.drop off)=true->shC sh (ys.drop off)=true->(Op.eqFields dd xs.toArray ys.toArray fs).run P w=.ok (eqVs (xs.drop off) (ys.drop off)) w
 | [],off,sh,h,h1,h2=>by
  simp only [flatFs,Option.some.injEq] at h;subst h
  have a1:=List.length_eq_zero_iff.1 (shC_length h1);have a2:=List.length_eq_zero_iff.1 (shC_length h2);simp [Op.eqFields,a1,a2,eqVs]
 | x :: l,off,sh,h,h1,h2=>by
  unfold flatFs at h;split at h<;>try cases h
  rename_i sx hx hfx
  split at h<;>try cases h
  rename_i r hr
  simp only [Bool.and_eq_true,bne_iff_ne,ne_eq] at hx;obtain ⟨hn,ho⟩:=hx;have ho:x.offset=off:=Nat.eq_of_beq_eq_true ho;obtain ⟨k1,⟨d,k2⟩,k3⟩:=hf _ _ hfx;obtain ⟨a1,a2⟩:=shC_split h1;obtain ⟨b1,b2⟩:=shC_split h2;rw [List.drop_drop] at a2 b2;have p1:=run_part_flat k2 k1 w xs off a1;have p2:=run_part_flat k2 k1 w ys off b1;have p3:=k3 w _ _ a1 b1;have ih:=run_eqFields_flat hf xs ys w l (off + sx.length) r hr a2 b2
  have e:eqVs (xs.drop off) (ys.drop off)=(eqVs ((xs.drop off).take sx.length) ((ys.drop off).take sx.length) && eqVs (xs.drop (off + sx.length)) (ys.drop (off + sx.length))):=by
   rw [←List.drop_drop,←List.drop_drop,←eqVs_append (by rw [shC_length a1,shC_length b1]),List.take_append_drop,List.take_append_drop]
  simp only [Op.eqFields,hn,ne_eq,not_false_eq_true,if_true,Sem.run_bind];rw [ho,p1];simp only [Result.andThen_ok,p2,p3];rw [e]
  cases eqVs ((xs.drop off).take sx.length) ((ys.drop off).take sx.length) with
  | false=>simp
  | true=>simpa using ih
theorem run_eqItems_flat {dd:Nat} {e:TypeId} {sh:List Sh} (hn:P.cellsOf e=sh.length) (hd:∃ d,flatT P d e=some sh) (hE:EqF P dd e sh) (xs ys:List Value) (w:World):∀ (m k:Nat),
 shC (repS sh m) (xs.drop (k * sh.length))=true->shC (repS sh m) (ys.drop (k * sh.length))=true->(Op.eqItems dd e (P.cellsOf e) xs.toArray ys.toArray (List.range' k m)).run P w=.ok (eqVs (xs.drop (k * sh.length)) (ys.drop (k * sh.length))) w
 | 0,k,h1,h2=>by
  have a1:=List.length_eq_zero_iff.1 (shC_length h1);have a2:=List.length_eq_zero_iff.1 (shC_length h2);simp [Op.eqItems,a1,a2,eqVs]
 | m + 1,k,h1,h2=>by
  obtain ⟨d,k2⟩:=hd;obtain ⟨a1,a2⟩:=shC_split (a:=sh) (b:=repS sh m) h1;obtain ⟨b1,b2⟩:=shC_split (a:=sh) (b:=repS sh m) h2;have hk:k * sh.length + sh.length=(k + 1) * sh.length:=by rw [Nat.add_mul];omega
  rw [List.drop_drop,hk] at a2 b2;have p1:=run_part_flat k2 hn w xs (k * sh.length) a1;have p2:=run_part_flat k2 hn w ys (k * sh.length) b1;have p3:=hE w _ _ a1 b1;have ih:=run_eqItems_flat hn ⟨d,k2⟩ hE xs ys w m (k + 1) a2 b2
  have e:eqVs (xs.drop (k * sh.length)) (ys.drop (k * sh.length))=(eqVs ((xs.drop (k * sh.length)).take sh.length) ((ys.drop (k * sh.length)).take sh.length) && eqVs (xs.drop ((k + 1) * sh.length)) (ys.drop ((k + 1) * sh.length))):=by
   rw [←hk,←List.drop_drop,←List.drop_drop,←eqVs_append (by rw [shC_length a1,shC_length b1]),List.take_append_drop,List.take_append_drop]
  rw [List.range'_succ];simp only [Op.eqItems,Sem.run_bind];rw [hn] at ih ⊢;rw [p1];simp only [Result.andThen_ok,p2,p3];rw [e]
  cases eqVs ((xs.drop (k * sh.length)).take sh.length) ((ys.drop (k * sh.length)).take sh.length) with
  | false=>simp
  | true=>simpa using ih
theorem eqF:∀ (d k:Nat) (t:TypeId) (sh:List Sh),flatT P d t=some sh->EqF P (k + d) t sh
 | 0,_,_,_,h=>by simp [flatT] at h
 | d + 1,k,t,sh,h=>by
  intro w xs ys hx hy;have hall:=h;unfold flatT at h
  have two:∀ {h0:Sh},sh=[h0]->∃ v u,xs=[v]/\ys=[u]/\shC1 h0 v=true/\shC1 h0 u=true:=by
   intro h0 hs;subst hs;have l1:=shC_length hx;have l2:=shC_length hy;obtain ⟨v,rfl⟩:=List.length_eq_one_iff.1 l1;obtain ⟨u,rfl⟩:=List.length_eq_one_iff.1 l2;exact ⟨v,u,rfl,rfl,by simpa [shC] using hx,by simpa [shC] using hy⟩
  split at h<;>try cases h
  ·rename_i hu
   obtain ⟨v,u,rfl,rfl,h1,h2⟩:=two rfl
   cases v<;>simp [shC1] at h1
   cases u<;>simp [shC1] at h2
   simp [valT,aggT,hu,eqVs,eqV1,run_equalIn_bool w (k + d) t _ _ hu,←Nat.add_assoc]
  ·rename_i q hu
   obtain ⟨v,u,rfl,rfl,h1,h2⟩:=two rfl
   cases v<;>simp [shC1] at h1
   cases u<;>simp [shC1] at h2
   subst h1;subst h2
   simp [valT,aggT,hu,eqVs,eqV1,run_equalIn_int (w:=w) (k + d) t _ _ _ _ hu,←Nat.add_assoc]
  ·rename_i hu
   obtain ⟨v,u,rfl,rfl,h1,h2⟩:=two rfl
   cases v<;>simp [shC1] at h1
   cases u<;>simp [shC1] at h2
   simp [valT,aggT,hu,eqVs,eqV1,run_equalIn_string (w:=w) (k + d) t _ _ hu,←Nat.add_assoc]
  ·rename_i n e hu
   split at h<;>try cases h
   rename_i sh0 hf
   split at h<;>cases h
   rename_i hn
   have hn:=Nat.eq_of_beq_eq_true hn;have hA:aggT P t=true:=by unfold aggT;rw [hu]
   obtain ⟨i,hi⟩:∃ i,P.info? e=some i:=by
    cases d with
    | zero=>simp [flatT] at hf
    | succ d=>
     cases hu2:P.underlying e with
     | none=>simp [flatT,hu2] at hf
     | some kd=>exact info_of_underlying hu2
   rw [valT_agg hA,valT_agg hA,←Nat.add_assoc,run_equalIn_array w (k + d) _ _ hu hi,List.range_eq_range'];have:=run_eqItems_flat hn ⟨d,hf⟩ (eqF d k e sh0 hf) xs ys w n 0 (by simpa using hx) (by simpa using hy)
   simpa using this
  ·rename_i fs hu
   split at h<;>try cases h
   rename_i hst
   have hA:aggT P t=true:=by unfold aggT;rw [hu]
   have hfs:P.fieldsOf t=fs:=by unfold Program.fieldsOf;rw [hu]
   rw [valT_agg hA,valT_agg hA,←Nat.add_assoc,run_equalIn_struct w (k + d) t _ _ (by rw [hfs];exact hu) hst,hfs]
   have:=run_eqFields_flat (dd:=k + d) (fun u s hs=>by
    split at hs<;>try cases hs
    rename_i s' hs'
    split at hs<;>cases hs
    rename_i hn
    exact ⟨Nat.eq_of_beq_eq_true hn,⟨d,hs'⟩,eqF d k u _ hs'⟩) xs ys w fs.toList 0 sh h (by simpa using hx) (by simpa using hy)
   simpa using this
theorem run_eq_flat {t:TypeId} {sh:List Sh} {xs ys:List Value} (hf:flatT P 9 t=some sh) (hA:aggT P t=true) (hx:shC sh xs=true) (hy:shC sh ys=true) (w:World):(Op.equal t (.agg xs.toArray) (.agg ys.toArray)).run P w=.ok (eqVs xs ys) w:=by
 have:=eqF 9 9991 t sh hf w xs ys hx hy;rw [valT_agg hA,valT_agg hA] at this;exact this
end
def flatOK (P:Program) (t:TypeId) (xs ys:List Value):Bool:=match flatT P 9 t with
 | some sh=>aggT P t && shC sh xs && shC sh ys
 | none=>false
theorem run_eq_ok {P:Program} {t:TypeId} {xs ys:List Value} (h:flatOK P t xs ys=true) (w:World):(Op.equal t (.agg xs.toArray) (.agg ys.toArray)).run P w=.ok (eqVs xs ys) w:=by
 unfold flatOK at h;split at h
 ·rename_i sh hf
  simp only [Bool.and_eq_true] at h;exact run_eq_flat hf h.1.1 h.1.2 h.2 w
 ·cases h
theorem pq_eqF {X:Cx} {s:AS} {o:Oper} {op:BinOp} {T T':TypeId} {x y:Operand} {l l':List AV} {vs us:List Value} {r:Bool} (ho:o.op=.binOp op T x y T') (hx:aev s x=.ag l) (hy:aev s y=.ag l') (hl:scs l=some vs) (hl':scs l'=some us)
 (hgd:prog.eqGuardType prog.depth T=false) (hf:flatOK prog T vs us=true) (hr:nilB op (eqVs vs us)=some r):Pq prog X s o (.sc (.bool r)):=
 pq_eqAg ho hx hy hl hl' hgd (run_eq_ok hf) hr
section
variable {X:Cx} {s:AS} {ops:Array Oper} {rest:List Oper} {Q:Exit->AS->Prop} {Qa:AS->Prop} {d:Option Nat} {ty:Nat} {pos:String} {aft:Array Edge} {op:BinOp} {T T':TypeId} {x y:Operand} {l l':List AV} {vs us:List Value} {r:Bool}
theorem AP.EQ (K:AP prog X ops Q rest (s.put d (.sc (.bool r)))) (hx:aev s x=.ag l:=by exact rfl) (hy:aev s y=.ag l':=by exact rfl) (hl:scs l=some vs:=by exact rfl) (hl':scs l'=some us:=by exact rfl)
 (hgd:prog.eqGuardType prog.depth T=false:=by kernel_rfl) (hf:flatOK prog T vs us=true:=by kernel_rfl) (hr:nilB op (eqVs vs us)=some r:=by exact rfl):AP prog X ops Q (⟨d,.binOp op T x y T',ty,pos,aft,none⟩ :: rest) s:=
 AP.pure rfl (pq_eqF rfl hx hy hl hl' hgd hf hr) K
end
def fieldOff (P:Program) (T:TypeId) (n:Nat):Option Nat:=match P.underlying T with
 | some (.struct fs)=>match fs[n]? with
  | some f=>match P.underlying f.type,aggT P f.type with
   | some _,false=>some f.offset
   | _,_=>none
  | none=>none
 | _=>none
theorem run_fieldv {P:Program} {T:TypeId} {n off:Nat} {vs:List Value} {v:Value} (h:fieldOff P T n=some off) (hv:vs[off]? = some v) (w:World):(Instr.field T (.agg vs.toArray) n).run P w=.ok v w:=by
 unfold fieldOff at h;split at h<;>try cases h
 rename_i fs hu
 split at h<;>try cases h
 rename_i f hf
 split at h<;>try cases h
 rename_i kd hk hA
 have hi:(isAgg f.type).run P w=.ok false w:=by
  unfold aggT at hA;rw [hk] at hA
  cases kd<;>simp at hA<;>simp [isAgg,Sem.run_bind,run_underlying hk,Result.andThen_ok]
 simp [Instr.field,Sem.run_bind,run_underlying hu,Result.andThen_ok,hf,part,hi,asAgg,hv]
theorem pq_fieldv {X:Cx} {s:AS} {o:Oper} {T:TypeId} {n off:Nat} {x:Operand} {l:List AV} {av:AV} (ho:o.op=.field T x n) (hx:aev s x=.ag l) (hf:fieldOff prog T n=some off) (hl:l[off]? = some av):Pq prog X s o av:=.of_run fun X φ κ f a w hs=>by
 have h1:=hs.evs hx;generalize hv:a.eval x=v at h1
 cases h1 with
 | ag hc _=>
  obtain ⟨u,hu,hr⟩:=hc.at_ hl;refine ⟨u,hr,fun w' _=>?_⟩;simp only [execOp,ho,hv,Sem.run_bind,run_fieldv hf hu w'];simp [go_sem]
theorem AP.FV {X:Cx} {s:AS} {ops:Array Oper} {rest:List Oper} {Q:Exit->AS->Prop} {T:TypeId} {n off z:Nat} {x:Operand} {l:List AV} {av:AV} {d:Option Nat} {ty:Nat} {pos:String} {aft:Array Edge} {i:TI} {fl:List (Nat×Nat)} (K:AP prog X ops Q rest (s.put d av)) (hx:aev s x=.ag l:=by exact rfl) (hT:tt[T]? = some i:=by exact rfl) (hk:i.kd=.st fl:=by exact rfl) (hn:fl[n]? = some (off,z):=by exact rfl) (hf:fieldOff prog T n=some off:=by kernel_rfl) (hl:l[off]? = some av:=by exact rfl):AP prog X ops Q (⟨d,.field T x n,ty,pos,aft,none⟩ :: rest) s:=
 AP.pure rfl (pq_fieldv rfl hx hf hl) K
theorem wrap_lit {x:Int} (h1:-9223372036854775808<=x) (h2:x<=9223372036854775807):IntKind.i64.wrap x=x:=wrap_i64 (by omega) (by omega)
section
variable {X:Cx} {s:AS} {o:Oper} {ops:Array Oper} {rest:List Oper} {Q:Exit->AS->Prop} {Qa:AS->Prop}
end
section
variable {X:Cx} {s:AS} {o:Oper} {ops:Array Oper} {rest:List Oper} {Q:Exit->AS->Prop} {av:AV}
theorem AP.TB {T T':TypeId} {x y:Operand} {b u off:Nat} {l:List AV} {i:TI} (K:AP prog X ops Q rest (AS.put ⟨s.t,s.b.set b ⟨u,.c T' (spl l off av.cells)⟩⟩ o.dst (.tu []))) (hg:o.guard=none:=by exact rfl) (ho:o.op=.store T x y:=by exact rfl) (hx:aev s x=.bp b u off:=by exact rfl) (hs:s.b[b]? = some ⟨u,.c T' l⟩:=by exact rfl) (hy:aev s y=av:=by exact rfl) (hk:av.known=true:=by exact rfl)
 (hT:tt[T]? = some i:=by exact rfl) (hn:av.cells.length=i.size:=by exact rfl) (hl:off + i.size<=l.length:=by first|omega|(simp;omega)):AP prog X ops Q (o :: rest) s:=
 ap_store hg ho hx hs hy hk hT hn (by rw [Nat.ble_eq];exact hl) K
theorem AP.LB {T T':TypeId} {x:Operand} {b u off:Nat} {l:List AV} {i:TI} {d:Option Nat} {ty:Nat} {pos:String} {aft:Array Edge} (K:AP prog X ops Q rest (s.put d av)) (hx:aev s x=.bp b u off:=by exact rfl) (hs:s.b[b]? = some ⟨u,.c T' l⟩:=by exact rfl) (hT:tt[T]? = some i:=by exact rfl) (hk:rowK i.kd=false:=by exact rfl) (hl:l[off]? = some av:=by assumption):AP prog X ops Q (⟨d,.load T x,ty,pos,aft,none⟩ :: rest) s:=
 AP.pure rfl (pq_load1 rfl hx hs hT hk hl) K
end
abbrev tagC (t:List UInt8):List AV:=[U (t.getD 0 0),U (t.getD 1 0),U (t.getD 2 0),U (t.getD 3 0),U (t.getD 4 0),U (t.getD 5 0),U (t.getD 6 0),U (t.getD 7 0),U (t.getD 8 0),U (t.getD 9 0),U (t.getD 10 0),U (t.getD 11 0),U (t.getD 12 0),U (t.getD 13 0),U (t.getD 14 0),U (t.getD 15 0),U (t.getD 16 0),U (t.getD 17 0),U (t.getD 18 0),U (t.getD 19 0),U (t.getD 20 0),U (t.getD 21 0),U (t.getD 22 0),U (t.getD 23 0),U (t.getD 24 0),U (t.getD 25 0),U (t.getD 26 0),U (t.getD 27 0),U (t.getD 28 0),U (t.getD 29 0),U (t.getD 30 0),U (t.getD 31 0)]
abbrev tg (t:List UInt8):AV:=.ag (tagC t)
def mixT (l:List UInt8) (i:Nat):List AV:=(List.range 32).map fun j=>U (if j < i then l.getD j 0 else 0)
theorem mixT_len (l:List UInt8) (i:Nat):(mixT l i).length=32:=by simp [mixT]
theorem mixT_set {l:List UInt8} {i:Nat} (h:i < l.length):(mixT l i).set i (U l[i])=mixT l (i + 1):=by
 refine List.ext_getElem? fun j=>?_
 rw [List.getElem?_set];simp only [mixT_len]
 by_cases hj:i=j
 ·subst hj;rw [if_pos rfl]
  by_cases h2:i < 32
  ·rw [if_pos h2];simp [mixT,h2,List.getD_eq_getElem?_getD,h]
  ·rw [if_neg h2,List.getElem?_eq_none (by rw [mixT_len];omega)]
 ·rw [if_neg hj];simp only [mixT,List.getElem?_map];rcases Nat.lt_or_ge j 32 with h2|h2
  ·rw [List.getElem?_range h2];simp only [Option.map_some]
   congr 2
   by_cases h3:j < i
   ·rw [if_pos h3,if_pos (by omega)]
   ·rw [if_neg h3,if_neg (by omega)]
  ·rw [List.getElem?_eq_none (by simpa using h2)];rfl
theorem mixT_32 (l:List UInt8):mixT l 32=tagC l:=rfl
theorem run_boundsA {n l h:Nat} {lo hi:Option Value} (hlo:lo=none/\l=0\/∃ k,lo=some (.int k l)) (hhi:hi=none/\h=n\/∃ k,hi=some (.int k h)) (h1:l<=h) (h2:h<=n) (w:World) :
 (Instr.sliceBounds false n n lo hi none).run prog w=.ok (l,h,n) w:=by
 have hb:∀ (k:IntKind) (x y:Nat) (code:BoundsCode),x<=y->(Instr.sliceBound (.int k x) y code).run prog w=.ok x w:=by
  intro k x y code hxy;simp [Instr.sliceBound,asIntOf,hxy,go_sem]
 rcases hhi with ⟨rfl,rfl⟩|⟨kh,rfl⟩<;>rcases hlo with ⟨rfl,rfl⟩|⟨kl,rfl⟩
 all_goals (unfold Instr.sliceBounds;simp only [Sem.run_bind,hb _ _ _ _ h1,hb _ _ _ _ h2,Result.andThen_ok,Sem.run_pure];first|rfl|skip)
section
variable {X:Cx} {φ φ':Fi} {κ κ':Ka} {f:Nat->Ct} {L L':Ct} {s s':AS} {a:Act} {w w':World} {o:Oper} {ops:Array Oper} {rest:List Oper} {Q:Exit->AS->Prop} {av:AV} {d:Option Nat} {ty:Nat} {pos:String} {aft:Array Edge}
theorem run_slice_arr {T e N l h g off:Nat} {i ie:TI} {lo hi:Option Value} (hT:tt[T]? = some i) (hk:i.kd=.ar N e) (he:tt[e]? = some ie) (hb:∀ w,(Instr.sliceBounds false N N lo hi none).run prog w=.ok (l,h,N) w) (hlN:l=0\/l < N) (w:World) :
 (Instr.sliceAt T (.pointer (some ⟨g,off,none⟩)) lo hi none).run prog w=.ok (.slice (some ⟨g,off + l * ie.size,none⟩) (h - l) (N - l)) w:=by
 have hu:=ty_ar hT hk
 have hadd:(if N=l then (⟨g,off,none⟩:Addr) else (⟨g,off,none⟩:Addr).add (l * ie.size))=⟨g,off + l * ie.size,none⟩:=by
  rcases hlN with rfl|hlN
  ·split<;>simp [Addr.add]
  ·rw [if_neg (by omega)];simp only [Addr.add];split<;>simp_all
 simp only [Instr.sliceAt,Sem.run_bind,run_underlying hu,Result.andThen_ok,Instr.sureAddr,Sem.run_pure,hb,ty_size he,hadd]
theorem pq_slice_arr {T e N l h b u off:Nat} {x:Operand} {lo hi:Option Operand} {i ie:TI} (ho:o.op=.slice T x lo hi none) (hx:aev s x=.bp b u off) (hT:tt[T]? = some i) (hk:i.kd=.ar N e) (he:tt[e]? = some ie)
 (hlo:Bd s lo 0 l) (hhi:Bd s hi N h) (h1:l<=h) (h2:h<=N) (hN:N<=1000000) (hlN:l=0\/l < N):Pq prog X s o (.sb b u ie.size (off + l * ie.size) (h - l) (N - l)):=.of_run fun X φ κ f a w hs=>by
 have hv:=hs.evs hx;generalize hp:a.eval x=v at hv
 cases hv with
 | @bp _ _ _ g hg=>
  have hb:=fun w=>run_boundsA (n:=N) (l:=l) (h:=h) (lo:=lo.map a.eval) (hi:=hi.map a.eval) (by simpa using Bd.lo (h0:=hs) hlo) (Bd.lo (h0:=hs) hhi) h1 h2 w
  refine ⟨_,.sb hg (by omega) (by unfold maxLen;omega),fun w' _=>?_⟩;have:=run_slice_arr (g:=g) (off:=off) hT hk he hb hlN w';simp only [execOp,ho,hp,Option.map_none,Sem.run_bind,this];rfl
theorem AP.SV {T e N:Nat} {x:Operand} {lo hi:Option Operand} {l h:Int} {b u off:Nat} {i ie:TI} (K:AP prog X ops Q rest (s.put d (.sb b u ie.size (off + l.toNat * ie.size) (h.toNat - l.toNat) (N - l.toNat)))) (hx:aev s x=.bp b u off:=by exact rfl) (hT:tt[T]? = some i:=by exact rfl) (hk:i.kd=.ar N e:=by exact rfl) (he:tt[e]? = some ie:=by exact rfl)
 (hl:bdv s 0 lo=some l:=by exact rfl) (hh:bdv s N hi=some h:=by exact rfl) (hp:0<=l/\l<=h/\h<=N/\l < N/\N<=1000000:=by (exact PF0)):AP prog X ops Q (⟨d,.slice T x lo hi none,ty,pos,aft,none⟩ :: rest) s:=
 AP.pure rfl (pq_slice_arr rfl hx hT hk he (bd_of (d:=0) hl hp.1) (bd_of hh (by omega)) (by omega) (by omega) hp.2.2.2.2 (.inr (by omega))) K
theorem SatW.frzC (h:SatW X φ κ f L s a w) {j u:Nat} {T:TypeId} {l:List AV} (hj:s.b[j]? = some ⟨u,.c T l⟩) :
 ∃ X' g vs,X.le X'/\φ j u=some g/\w.heap[g]? = some (.cells vs.toArray T (0,0))/\X'.R g/\RC w φ κ X'.R l vs Ct.z/\(∀ v∈vs,v.oneCell'=true)/\SatW X' φ κ (updF f j Ct.z) L ⟨s.t,s.b.set j ⟨u,.x⟩⟩ a w:=by
 obtain ⟨hrs,ht⟩:=h.take hj .x fun _ _=>.x
 generalize hF:f j=F at hrs ht
 cases hrs with
 | @c _ _ vs g _ hφ hh hc h1 hS=>
  have hgr:∀ x,F x≠0->x < w.heap.size/\(X.S0 x≠0\/X.w0.heap.size<=x)/\sumF (updF f j Ct.z) (s.b.set j ⟨u,.x⟩).length x + L x=0:=fun x hx=>by
   have h1:=ht.own x (by dsimp only;omega);have h2:=ht.one x;dsimp only at h2;exact ⟨h1.1,h1.2,by omega⟩
  refine ⟨X.gr (fun x=>X.R x\/F x≠0),g,vs,Cx.le_gr (fun x hx=>.inl hx) (fun x hx=>hx.imp id fun h0=>(hgr x h0).2.1),hφ,hh,.inr (by rw [hS];simp),RC.hist (fun _ _ _ h=>h) (fun _ _ _ h=>h) (fun _ h=>.inl h) hc,h1,?_⟩;refine SatW.grow (ht.drop fun x=>by (try dsimp only);omega) (fun x hx=>.inl hx) (fun x hx=>?_) (fun x hx=>hx.imp id fun h0=>(hgr x h0).2.1);rcases hx with hx|hx
  ·have:=ht.rd x hx;dsimp only at this ⊢;exact ⟨this.1,by omega⟩
  ·exact ⟨(hgr x hx).1,(hgr x hx).2.2⟩
theorem RC.ones {R:Nat->Prop}:∀ {l:List AV} {vs:List Value},RC w φ κ R l vs Ct.z->(∀ v∈vs,v.oneCell'=true)->(∀ x∈l,x.leaf=true)->RE w φ κ R 1 (l.map fun a=>[a]) vs Ct.z
 | _,_,.nil,_,_=>.nil
 | _,_,.cons (a:=a) (v:=v) h1 h2 h3,ho,hl=>by
  obtain ⟨rfl,rfl⟩:=Ct.split h3;exact .cons (S:=Ct.z) (T:=Ct.z) (us:=[v]) (.cons (S:=Ct.z) (T:=Ct.z) h1 .nil fun _=>rfl) rfl ⟨fun u hu=>ho u (by simp at hu;simp [hu]),fun x hx=>hl x (by simp at hx;simp [hx])⟩ (RC.ones h2 (fun v hv=>ho v (by simp [hv])) fun x hx=>hl x (by simp [hx])) fun _=>rfl
theorem AP.SF {T T' e N:Nat} {x:Operand} {b u d':Nat} {i ie:TI} {l:List AV} (K:AP prog X ops Q rest ⟨s.t.set d' (.sl none 1 (l.map fun a=>[a])),s.b.set b ⟨u,.x⟩⟩) (hx:aev s x=.bp b u 0:=by exact rfl) (hs:s.b[b]? = some ⟨u,.c T' l⟩:=by exact rfl) (hT:tt[T]? = some i:=by exact rfl) (hk:i.kd=.ar N e:=by exact rfl) (he:tt[e]? = some ie:=by exact rfl)
 (hsz:Nat.beq ie.size 1=true:=by exact rfl) (hl:Nat.beq l.length N=true:=by first|exact rfl|(rw [Nat.beq_eq_true_eq];simp;done)|(rw [Nat.beq_eq_true_eq];simp;omega)) (hN:Nat.ble N 1000000=true:=by exact rfl) (hlf:∀ x∈l,x.leaf=true:=by first|exact List.all_eq_true.1 rfl|(intro x hx;simp at hx;obtain ⟨y,_,rfl⟩:=hx;rfl)):AP prog X ops Q (⟨some d',.slice T x none none none,ty,pos,aft,none⟩ :: rest) s:=
 .runG rfl (fun X φ κ f a w h=>by
  have hsz:=Nat.eq_of_beq_eq_true hsz;have hl:=Nat.eq_of_beq_eq_true hl;have hN:=Nat.le_of_ble_eq_true hN;obtain ⟨X1,g,vs,hX1,hφ,hh,hRg,hc,h1,h2⟩:=h.frzC hs;have hv:=h.evs hx;generalize hp:a.eval x=v at hv
  cases hv with
  | bp hg=>
   rw [hφ] at hg;injection hg with hg;subst hg
   have hb:=fun w=>run_boundsA (n:=N) (l:=0) (h:=N) (lo:=none) (hi:=none) (.inl ⟨rfl,rfl⟩) (.inl ⟨rfl,rfl⟩) (Nat.zero_le _) (Nat.le_refl _) w
   have hrun:=run_slice_arr (g:=g) (off:=0) hT hk he hb (.inl rfl) w;have hlen:(l.map fun a=>[a]).length=N:=by simp [hl]
   have hrv:RV w φ κ X1.R (.sl none 1 (l.map fun a=>[a])) (.slice (some ⟨g,0,none⟩) (l.map fun a=>[a]).length N) Ct.z:=.ro (RC.ones hc h1 hlf) (by omega) (by unfold maxLen;omega) (fun _=>hRg) fun j u hj=>by
    rw [cell_of_row w g (0 + j) vs.toArray T' (0,0) hh];simpa using hj
   rw [hlen] at hrv;refine ⟨X1,_,w,φ,κ,_,hX1,?_,h2.puts (some d') hrv⟩;simp only [execOp,hp,Option.map_none,Sem.run_bind,hrun];simp [go_sem]) K
theorem SatW.rebox (h:SatW X φ κ f Ct.z s a w) {b u g:Nat} {T':TypeId} {l l':List AV} {vs vs':List Value} (hs:s.b[b]? = some ⟨u,.c T' l⟩) (hφ:φ b u=some g) (hh:w.heap[g]? = some (.cells vs.toArray T' (0,0))) (hrc:RC w φ κ X.R l' vs' Ct.z) (h1:∀ v∈vs',v.oneCell'=true) :
 ∃ f',SatW X φ κ f' Ct.z ⟨s.t,s.b.set b ⟨u,.c T' l'⟩⟩ a (w.setRow g vs'.toArray):=by
 have hS:=h.sl b _ hs;have hb:b < s.b.length:=(List.getElem?_eq_some_iff.1 hs).1
 have hf:∀ x,f b x=if x=g then 1 else 0:=by
  generalize f b=F at hS
  cases hS with
  | c hφ' _ _ _ hSx=>rw [hφ] at hφ';injection hφ' with e;subst e;exact hSx
 have hgl:g < w.heap.size:=(Array.getElem?_eq_some_iff.1 hh).1;refine ⟨updF f b (fun x=>if x=g then 1 else 0),?_⟩;refine h.turn (w':=w.setRow g vs'.toArray) hs (fun _ _ _ h=>h) (fun _ _ _ h=>h) (by simp [World.setRow]) rfl rfl rfl ?_ ?_ (g:=fun x=>if x=g then 1 else 0) (L':=Ct.z) ?_ ?_ (Nat.le_refl _) (fun _ _ _ h=>h) (fun _ _ _ h=>h)
 ·intro x hx h0;have:=hf x;have hne:x≠g:=by rintro rfl;simp at this;omega
  exact setRow_other w g x _ hne
 ·have hR:∀ x,X.R x->(w.setRow g vs'.toArray).heap[x]? = w.heap[x]?:=fun x hx=>by
   have h3:=h.not_rd hx;have h4:=sumF_le f x _ b hb;have h5:=hf x;have hne:x≠g:=by rintro rfl;simp at h5;omega
   exact setRow_other w g x _ hne
  exact .c hφ (setRow_heap w g _ vs'.toArray T' _ hh) (RC.keep hR hrc fun x hx=>absurd rfl hx) h1 fun _=>rfl
 ·intro x hx;have:=hf x;simp only [Ct.z];omega
 ·intro x hx;simp only [Ct.z];split
  ·omega
  ·simp
def cpy {α:Type} (l:List α) (o:Nat) (r:List α):List α:=l.take o ++ r ++ l.drop (o + r.length)
theorem RC.take_ {R:Nat->Prop} {l:List AV} {us:List Value} (h:RC w φ κ R l us Ct.z) (m:Nat):RC w φ κ R (l.take m) (us.take m) Ct.z:=by simpa using h.drop_ 0 m
theorem RC.dropA {R:Nat->Prop} {l:List AV} {us:List Value} (h:RC w φ κ R l us Ct.z) (n:Nat):RC w φ κ R (l.drop n) (us.drop n) Ct.z:=by
 have:=h.drop_ n l.length
 rwa [List.take_of_length_le (by simp),List.take_of_length_le (by simp [h.length])] at this
theorem RC.cpy {R:Nat->Prop} {l r:List AV} {us vs:List Value} (h:RC w φ κ R l us Ct.z) (k:RC w φ κ R r vs Ct.z) (o:Nat):RC w φ κ R (cpy l o r) (cpy us o vs) Ct.z:=by
 unfold Go.Proofs.YtnjllcnjcpfbhaaGreat.cpy;rw [k.length];exact ((h.take_ o).append k (fun _=>rfl)).append (h.dropA _) (fun _=>rfl)
theorem cpy_one {us vs:List Value} (o:Nat) (h:∀ v∈us,v.oneCell'=true) (k:∀ v∈vs,v.oneCell'=true):∀ v∈cpy us o vs,v.oneCell'=true:=fun v hv=>by
 unfold cpy at hv;rcases List.mem_append.1 hv with hv|hv
 ·rcases List.mem_append.1 hv with hv|hv
  ·exact h v (List.mem_of_mem_take hv)
  ·exact k v hv
 ·exact h v (List.mem_of_mem_drop hv)
theorem cpy_length {α:Type} {l:List α} {o:Nat} {r:List α} (h:o + r.length<=l.length):(cpy l o r).length=l.length:=by unfold cpy;simp;omega
theorem ap_copyv {T T1 T' e:Nat} {x y:Operand} {b u off n c:Nat} {l:List AV} {r:List AV} {i ie:TI} {sl:Nat} (hg:o.guard=none) (ho:o.op=.call { callee:=.builtin .copy,args:=#[x,y],argTypes:=#[T,T1] }) (hx:aev s x=.sb b u 1 off n c) (hs:s.b[b]? = some ⟨u,.c T' l⟩) (hT:tt[T]? = some i) (hk:i.kd=.sl e) (he:tt[e]? = some ie) (hsz:ie.size=1)
 (hfit:off + n<=l.length)
 (hsrc:∀ X φ κ f a w,SatW X φ κ f Ct.z s a w->∃ A cs sc,a.eval y=.slice (some A) sl sc/\RC w φ κ X.R r cs Ct.z/\cs.length=min sl n/\(∀ v∈cs,v.oneCell'=true)/\∀ j v,cs[j]? = some v->w.cell? (A.add j)=some v)
 (K:AP prog X ops Q rest (AS.put ⟨s.t,s.b.set b ⟨u,.c T' (cpy l off r)⟩⟩ o.dst (.sc (.int .i64 ((min sl n:Nat):Int))))):AP prog X ops Q (o :: rest) s:=
 .run hg (fun X φ κ f a w h=>by
  obtain ⟨A,cs,sc,hy,hrc,hr,h1,hcell⟩:=hsrc X φ κ f a w h;have hcl:=hrc.length;have hv:=h.evs hx;have hS:=h.sl b _ hs;generalize hp:a.eval x=v at hv
  cases hv with
  | @sb _ _ _ _ _ _ g hφ hnc _=>
   obtain ⟨vs,hh,hvc,hv1⟩:∃ vs:List Value,w.heap[g]? = some (.cells vs.toArray T' (0,0))/\RC w φ κ X.R l vs Ct.z/\∀ v∈vs,v.oneCell'=true:=by
    generalize f b=F at hS
    cases hS with
    | c hφ' hh hc ho _=>rw [hφ] at hφ';injection hφ' with e;subst e;exact ⟨_,hh,hc,ho⟩
   have hvl:=hvc.length;obtain ⟨dd,j,hd,hj,_,hjs,_⟩:=TI.parts (ty he);have hrun:=run_copy_row (P:=prog) w T T1 o.type e g off n c A sl sc vs.toArray T' cs (ty_sl hT hk) (by rw [hj];simp [hjs,hsz]) hh hr hcell (by simp;omega) h1;obtain ⟨f',h2⟩:=h.rebox hs hφ hh (hvc.cpy hrc off) (cpy_one off hv1 h1);have e1:(vs.toArray.toList.take off ++ cs ++ vs.toArray.toList.drop (off + cs.length)).toArray=(cpy vs off cs).toArray:=by simp [cpy]
   rw [e1] at hrun;refine ⟨_,_,φ,κ,f',?_,h2.puts o.dst (av:=.sc (.int .i64 ((min sl n:Nat):Int))) (v:=goInt cs.length) (by rw [hr];exact .sc rfl)⟩;have hm:(#[x,y]:Array Operand).map a.eval=#[.slice (some ⟨g,off,none⟩) n c,.slice (some A) sl sc]:=by simp [hp,hy]
   simp only [execOp,ho,resolve,Sem.run_bind,Sem.run_pure,Result.andThen_ok,invoke,hm]
   show Sem.run prog ((do pure (.value (←Builtin.copy_ #[T,T1] o.type #[.slice (some ⟨g,off,none⟩) n c,.slice (some A) sl sc])):Sem Next)) w=_
   simp only [Sem.run_bind,hrun,Result.andThen_ok,Sem.run_pure]) K
theorem RE.flat1 {R:Nat->Prop}:∀ {r:List (List AV)} {us:List Value},RE w φ κ R 1 r us Ct.z->RC w φ κ R r.flatten us Ct.z/\(∀ v∈us,v.oneCell'=true)/\us.length=r.length
 | _,_,.nil=>⟨.nil,(fun _ h=>by cases h),rfl⟩
 | _,_,.cons h1 h2 h3 h4 h5=>by
  obtain ⟨rfl,rfl⟩:=Ct.split h5;obtain ⟨a,b,c⟩:=RE.flat1 h4;exact ⟨by rw [List.flatten_cons];exact h1.append a fun _=>rfl,fun v hv=>(List.mem_append.1 hv).elim (h3.1 v) (b v),by simp [h2,c];omega⟩
theorem RE.take_ {R:Nat->Prop}:∀ {r:List (List AV)} {us:List Value} (m:Nat),RE w φ κ R 1 r us Ct.z->RE w φ κ R 1 (r.take m) (us.take m) Ct.z
 | _,_,0,_=>by simpa using .nil
 | _,_,m + 1,.nil=>.nil
 | _,_,m + 1,.cons (us:=us) (vs:=vs) h1 h2 h3 h4 h5=>by
  obtain ⟨rfl,rfl⟩:=Ct.split h5
  have e:(us ++ vs).take (m + 1)=us ++ vs.take m:=by
   rw [List.take_append,h2,List.take_of_length_le (by omega)];rfl
  rw [e];exact .cons (S:=Ct.z) (T:=Ct.z) h1 h2 h3 (RE.take_ m h4) fun _=>rfl
theorem AP.CV {T T1 T' e:Nat} {x y:Operand} {b u off n c:Nat} {l:List AV} {rows:List (List AV)} {i ie:TI} (K:AP prog X ops Q rest (AS.put ⟨s.t,s.b.set b ⟨u,.c T' (cpy l off (rows.take (min rows.length n)).flatten)⟩⟩ o.dst (.sc (.int .i64 ((min rows.length n:Nat):Int))))) (hg:o.guard=none:=by exact rfl) (ho:o.op=.call { callee:=.builtin .copy,args:=#[x,y],argTypes:=#[T,T1] }:=by exact rfl)
 (hx:aev s x=.sb b u 1 off n c:=by exact rfl) (hy:aev s y=.sl none 1 rows:=by exact rfl) (hs:s.b[b]? = some ⟨u,.c T' l⟩:=by exact rfl) (hT:tt[T]? = some i:=by exact rfl) (hk:i.kd=.sl e:=by exact rfl) (he:tt[e]? = some ie:=by exact rfl) (hsz:Nat.beq ie.size 1=true:=by exact rfl)
 (hp:off + n<=l.length/\0 < rows.length:=by (exact PF0)):AP prog X ops Q (o :: rest) s:=
 ap_copyv hg ho hx hs hT hk he (Nat.eq_of_beq_eq_true hsz) hp.1 (fun X φ κ f a w h=>by
  have h1:=h.evs hy;have hp:=hp;generalize hp':a.eval y=p at h1
  cases h1 with
  | ni=>simp at hp
  | ne=>simp at hp
  | @ro _ _ g o' c' us hre hle hm hR hc=>
   obtain ⟨a1,a2,a3⟩:=RE.flat1 (RE.take_ (min rows.length n) hre);refine ⟨_,_,c',rfl,a1,by rw [a3];simp,a2,fun j v hj=>?_⟩;rw [List.getElem?_take] at hj;split at hj
   ·have:=hc j v hj
    rwa [show (⟨g,o',none⟩:Addr).add j=⟨g,o' + j,none⟩ by unfold Addr.add;split<;>simp_all]
   ·cases hj) K
theorem AP.CO {T T1 T' e:Nat} {x y:Operand} {b u off n c off' n' c':Nat} {l:List AV} {i ie:TI} (K:AP prog X ops Q rest (AS.put ⟨s.t,s.b.set b ⟨u,.c T' (cpy l off ((l.drop off').take (min n' n)))⟩⟩ o.dst (.sc (.int .i64 ((min n' n:Nat):Int))))) (hg:o.guard=none:=by exact rfl) (ho:o.op=.call { callee:=.builtin .copy,args:=#[x,y],argTypes:=#[T,T1] }:=by exact rfl)
 (hx:aev s x=.sb b u 1 off n c:=by exact rfl) (hy:aev s y=.sb b u 1 off' n' c':=by exact rfl) (hs:s.b[b]? = some ⟨u,.c T' l⟩:=by exact rfl) (hT:tt[T]? = some i:=by exact rfl) (hk:i.kd=.sl e:=by exact rfl) (he:tt[e]? = some ie:=by exact rfl) (hsz:Nat.beq ie.size 1=true:=by exact rfl)
 (hp:off + n<=l.length/\off' + n'<=l.length:=by (exact PF0)):AP prog X ops Q (o :: rest) s:=
 ap_copyv (sl:=n') hg ho hx hs hT hk he (Nat.eq_of_beq_eq_true hsz) hp.1 (fun X φ κ f a w h=>by
  have hv:=h.evs hy;have hS:=h.sl b _ hs;generalize hp':a.eval y=p at hv
  cases hv with
  | @sb _ _ _ _ _ _ g hφ hnc _=>
   obtain ⟨vs,hh,hvc,hv1⟩:∃ vs:List Value,w.heap[g]? = some (.cells vs.toArray T' (0,0))/\RC w φ κ X.R l vs Ct.z/\∀ v∈vs,v.oneCell'=true:=by
    generalize f b=F at hS
    cases hS with
    | c hφ' hh hc ho _=>rw [hφ] at hφ';injection hφ' with e;subst e;exact ⟨_,hh,hc,ho⟩
   have hvl:=hvc.length;refine ⟨_,(vs.drop off').take (min n' n),c',rfl,hvc.drop_ off' _,by simp;omega,fun v hv=>hv1 v (List.mem_of_mem_drop (List.mem_of_mem_take hv)),fun j v hj=>?_⟩;rw [List.getElem?_take] at hj;split at hj
   ·rw [List.getElem?_drop] at hj;rw [show (⟨g,off',none⟩:Addr).add j=⟨g,off' + j,none⟩ by unfold Addr.add;split<;>simp_all];rw [cell_of_row w g (off' + j) vs.toArray T' (0,0) hh];simpa using hj
   ·cases hj) K
theorem run_indexv {T N e:Nat} {i:TI} {k:IntKind} {j:Int} {vs:List Value} {v:Value} (hT:tt[T]? = some i) (hk:i.kd=.ar N e) {ie:TI} (he:tt[e]? = some ie) (hsz:ie.size=1) (hrow:rowK ie.kd=false) (h0:0<=j) (hj:j < N) (hv:vs[j.toNat]? = some v) (w:World):(Instr.index T (.agg vs.toArray) (.int k j)).run prog w=.ok v w:=by
 obtain ⟨d,hd,hr,_⟩:=ty_flat he hrow
 have hagg:(isAgg e).run prog w=.ok false w:=by
  unfold isAgg;rw [Sem.run_bind,run_underlying hd w]
  cases d<;>first|rfl|(simp [TypeDesc.isRow] at hr;done)
 have hsize:=ty_size he w;simp [Instr.index,asIntOf,Sem.run_bind,run_underlying (ty_ar hT hk),Result.andThen_ok,h0,hj,hsize,hsz,part,hagg,asAgg,hv,go_sem]
theorem AP.IX {T N e:Nat} {x y:Operand} {l:List AV} {k:IntKind} {j:Int} {i ie:TI} (K:AP prog X ops Q rest (s.put d av)) (hx:aev s x=.ag l:=by exact rfl) (hy:aev s y=.sc (.int k j):=by exact rfl) (hT:tt[T]? = some i:=by exact rfl) (hk:i.kd=.ar N e:=by exact rfl) (he:tt[e]? = some ie:=by exact rfl) (hsz:Nat.beq ie.size 1=true:=by exact rfl) (hrow:rowK ie.kd=false:=by exact rfl)
 (hl:l[j.toNat]? = some av:=by first|assumption|exact mapAt (by (first|omega|(simp;omega)|(simp;done)|assumption))|exact rfl) (hp:0<=j/\j < N:=by (exact PF0)):AP prog X ops Q (⟨d,.index T x y,ty,pos,aft,none⟩ :: rest) s:=
 AP.pure rfl (.of_run fun X φ κ f a w h=>by
  have h1:=h.evs hx;have h2:=h.evc hy;generalize hp':a.eval x=p at h1
  cases h1 with
  | ag hc _=>
   obtain ⟨v,hv,hr⟩:=hc.at_ hl;refine ⟨v,hr,fun w' _=>?_⟩;have:=run_indexv hT hk he (Nat.eq_of_beq_eq_true hsz) hrow hp.1 hp.2 hv (k:=k) w';simp only [execOp,hp',h2,Sem.run_bind,this];simp [go_sem]) K
end
section
variable {s:AS} {ops:Array Oper} {all:List Oper} {K:AS->Prop} {acc:List Fp} {l:List Oper} {av:AV} {op:Op} {ty:Nat} {pos:String} {aft:Array Edge} {g:Option (Nat×Bool)} {d:Nat} {T:List Nat} {F:List Nat} {b2:List Sl} {r:Bool}
theorem DW.RX (hk:DW prog ops all K (⟨T,some d,F,false⟩ :: acc) l ⟨s.t.set d av,s.b⟩) (hg:gdS ops s g=some r:=by exact rfl) (hT:opTs ops ⟨some d,op,ty,pos,aft,g⟩=T:=by (simp only [ft,nm,Nat.reduceAdd,Nat.reduceBEq,List.getElem?_cons_zero,List.getElem?_cons_succ];exact rfl)) (hF:ftF 0 s op=F:=by (simp only [ft,nm,Nat.reduceAdd,Nat.reduceBEq,List.getElem?_cons_zero,List.getElem?_cons_succ];exact rfl)) (h:∀ X V,AP prog X ops (fun e s'=>e=.normal/\s'=⟨(msT T 0 s.t).set d av,msB F V 0 s.b⟩) [⟨some d,op,ty,pos,aft,g⟩] ⟨msT T 0 s.t,msB F V 0 s.b⟩:=by (intro X V;simp only [ft,nm,Nat.reduceAdd,Nat.reduceBEq];(try (refine AP.Y ?_;dsimp only));(first|refine AP.LB ?_|refine AP.IX ?_|refine AP.SV ?_|refine AP.FV ?_);(try refine NX ?_);refine AP.nil ?_;first|exact ⟨trivial,rfl⟩|exact ⟨rfl,rfl⟩)) (hy:nyF F 0 s.b=true:=by exact rfl) :
 DW prog ops all K acc (⟨some d,op,ty,pos,aft,g⟩ :: l) s:=DW.rd 0 hT hF h hk hy
theorem DW.WX (hk:DW prog ops all K (⟨T,some d,F,true⟩ :: acc) l ⟨s.t.set d av,b2⟩) (hg:gdS ops s g=some r:=by exact rfl) (hT:opTs ops ⟨some d,op,ty,pos,aft,g⟩=T:=by (simp only [ft,nm,Nat.reduceAdd,Nat.reduceBEq,List.getElem?_cons_zero,List.getElem?_cons_succ];exact rfl)) (hF:ftF 1 s op=F:=by (simp only [ft,nm,Nat.reduceAdd,Nat.reduceBEq,List.getElem?_cons_zero,List.getElem?_cons_succ];exact rfl)) (h:∀ X V,AP prog X ops (fun e s'=>e=.normal/\s'.t=(msT T 0 s.t).set d av/\Mg F V 0 s.b s'.b b2) [⟨some d,op,ty,pos,aft,g⟩] ⟨msT T 0 s.t,msB F V 0 s.b⟩:=by (intro X V;simp only [ft,nm,Nat.reduceAdd,Nat.reduceBEq];(try (refine AP.Y ?_;dsimp only));(first|refine AP.SF ?_|refine AP.CV ?_|refine AP.CO ?_);(try refine NX ?_);refine AP.nil ?_;(first|refine ⟨trivial,rfl,?_⟩|refine ⟨rfl,rfl,?_⟩);(repeat' (first|exact Mg.nil|apply Mg.keep rfl|apply Mg.take rfl));all_goals fail))
 (hb:(∃ V:Nat->Nat,∃ b1,Mg F V 0 s.b b1 b2):=by (refine Exists.intro (fun _=>0) ?_;apply Exists.intro;(repeat' (first|exact Mg.nil|apply Mg.keep rfl|apply Mg.take rfl));all_goals fail)) (hy:nyF F 0 s.b=true:=by exact rfl) (hy2:nyF F 0 b2=true:=by exact rfl):DW prog ops all K acc (⟨some d,op,ty,pos,aft,g⟩ :: l) s:=DW.st 1 hT hF h hb hk hy hy2
theorem DW.WX' (hk:DW prog ops all K (⟨T,none,F,true⟩ :: acc) l ⟨s.t,b2⟩) (hg:gdS ops s g=some r:=by exact rfl) (hT:opTs ops ⟨none,op,ty,pos,aft,g⟩=T:=by (simp only [ft,nm,Nat.reduceAdd,Nat.reduceBEq,List.getElem?_cons_zero,List.getElem?_cons_succ];exact rfl)) (hF:ftF 1 s op=F:=by (simp only [ft,nm,Nat.reduceAdd,Nat.reduceBEq,List.getElem?_cons_zero,List.getElem?_cons_succ];exact rfl)) (h:∀ X V,AP prog X ops (fun e s'=>e=.normal/\s'.t=msT T 0 s.t/\Mg F V 0 s.b s'.b b2) [⟨none,op,ty,pos,aft,g⟩] ⟨msT T 0 s.t,msB F V 0 s.b⟩:=by (intro X V;simp only [ft,nm,Nat.reduceAdd,Nat.reduceBEq];(try (refine AP.Y ?_;dsimp only));(first|refine AP.TB ?_);(try refine NX ?_);refine AP.nil ?_;(first|refine ⟨trivial,rfl,?_⟩|refine ⟨rfl,rfl,?_⟩);(repeat' (first|exact Mg.nil|apply Mg.keep rfl|apply Mg.take rfl));all_goals fail))
 (hb:(∃ V:Nat->Nat,∃ b1,Mg F V 0 s.b b1 b2):=by (refine Exists.intro (fun _=>0) ?_;apply Exists.intro;(repeat' (first|exact Mg.nil|apply Mg.keep rfl|apply Mg.take rfl));all_goals fail)) (hy:nyF F 0 s.b=true:=by exact rfl) (hy2:nyF F 0 b2=true:=by exact rfl):DW prog ops all K acc (⟨none,op,ty,pos,aft,g⟩ :: l) s:=DW.stN 1 hT hF h hb hk hy hy2
end
mutual
def fzv (b u k:Nat) (s0:List (List AV)):AV->AV
 | .hd b' u'=>match b' == b && u' == u with
  | true=>.sl none k s0
  | false=>.hd b' u'
 | .ag l=>.ag (fzc b u k s0 l)
 | .sc v=>.sc v
 | .sl o k' s=>.sl o k' s
 | .bp b' u' o=>.bp b' u' o
 | .ep b' u' k' i o=>.ep b' u' k' i o
 | .rp k' s i o=>.rp k' s i o
 | .tu l=>.tu l
 | .gd p a=>.gd p a
 | .fs k' s=>.fs k' s
 | .fn f c=>.fn f c
 | .hf b' u'=>.hf b' u'
 | .sb b' u' k' o n c=>.sb b' u' k' o n c
 | .de=>.de
 | .ob T l=>.ob T l
 | .mo ks s=>.mo ks s
 | .vp b' u' o=>.vp b' u' o
 | .pz l=>.pz l
def fzc (b u k:Nat) (s0:List (List AV)):List AV->List AV
 | []=>[]
 | a :: l=>fzv b u k s0 a :: fzc b u k s0 l
end
mutual
theorem fzv_rel (b u k:Nat) (s0:List (List AV)):∀ a:AV,FzV b u k s0 a (fzv b u k s0 a)
 | .hd b' u'=>by
  unfold fzv;split
  ·rename_i h1
   rw [Bool.and_eq_true] at h1;obtain rfl:=eq_of_beq h1.1;obtain rfl:=eq_of_beq h1.2;exact .hd
  ·exact .same
 | .ag l=>.ag (fzc_rel b u k s0 l)
 | .sc _=>.same
 | .sl _ _ _=>.same
 | .bp _ _ _=>.same
 | .ep _ _ _ _ _=>.same
 | .rp _ _ _ _=>.same
 | .vp _ _ _=>.same
 | .pz _=>.same
 | .tu _=>.same
 | .gd _ _=>.same
 | .fs _ _=>.same
 | .fn _ _=>.same
 | .hf _ _=>.same
 | .sb _ _ _ _ _ _=>.same
 | .de=>.same
 | .ob _ _=>.same
 | .mo _ _=>.same
theorem fzc_rel (b u k:Nat) (s0:List (List AV)):∀ l:List AV,FzC b u k s0 l (fzc b u k s0 l)
 | []=>.nil
 | a :: l=>.cons (fzv_rel b u k s0 a) (fzc_rel b u k s0 l)
end
def fzb (b u k:Nat) (s0:List (List AV)):List Sl->List Sl
 | []=>[]
 | ⟨v,.c T c⟩ :: l=>⟨v,.c T (fzc b u k s0 c)⟩ :: fzb b u k s0 l
 | e :: l=>e :: fzb b u k s0 l
theorem fzb_rel (b u k:Nat) (s0:List (List AV)):∀ l:List Sl,FzB b u k s0 l (fzb b u k s0 l)
 | []=>.nil
 | ⟨v,.c T c⟩ :: l=>.c (fzc_rel b u k s0 c) (fzb_rel b u k s0 l)
 | ⟨v,.r e k' s⟩ :: l=>.same (fzb_rel b u k s0 l)
 | ⟨v,.x⟩ :: l=>.same (fzb_rel b u k s0 l)
 | ⟨v,.o⟩ :: l=>.same (fzb_rel b u k s0 l)
 | ⟨v,.y J⟩ :: l=>.same (fzb_rel b u k s0 l)
 | ⟨v,.f _ _ _ _ _⟩ :: l=>.same (fzb_rel b u k s0 l)
 | ⟨v,.m _ _ _ _⟩ :: l=>.same (fzb_rel b u k s0 l)
 | ⟨v,.w _ _⟩ :: l=>.same (fzb_rel b u k s0 l)
def fzS (s:AS) (b:Nat):Option AS:=
 match s.b[b]? with
 | some ⟨u,.r _ k rows⟩=>some ⟨fzc b u k (roE rows) s.t,fzb b u k (roE rows) (s.b.set b ⟨u,.x⟩)⟩
 | _=>none
theorem gh_fzS {s s':AS} {b:Nat} (h:fzS s b=some s'):Gh s s':=by
 unfold fzS at h;split at h
 ·rename_i hs
  injection h with h;subst h
  exact gh_fz hs rfl (fzc_rel _ _ _ _ _) (fzb_rel _ _ _ _ _)
 ·cases h
def fzA:AS->List AV->Option AS
 | _,[]=>none
 | s,.hd b _ :: l=>match fzS s b with
  | some s'=>match fzA s' l with
   | some s''=>some s''
   | none=>some s'
  | none=>fzA s l
 | s,_ :: l=>fzA s l
theorem gh_fzA:∀ {l:List AV} {s s':AS},fzA s l=some s'->Gh s s'
 | [],_,_,h=>by cases h
 | a :: l,s,s',h=>by
  cases a with
  | hd b u=>
   simp only [fzA] at h;split at h
   ·rename_i s1 h1
    split at h
    ·rename_i s2 h2
     injection h with h;subst h
     exact (gh_fzS h1).trans (gh_fzA h2)
    ·injection h with h;subst h
     exact gh_fzS h1
   ·exact gh_fzA h
  | _=>exact gh_fzA (l:=l) h
theorem AP.PF {P:Program} {X:Cx} {s s1:AS} {ops:Array Oper} {rest:List Oper} {o:Oper} {Q:Exit->AS->Prop} {fo:Operand} {xs:Array Operand} {tys:Array TypeId} (K:AP P X ops Q (o :: rest) s1) (ho:o.op=.call { callee:=.value fo,args:=xs,argTypes:=tys }:=by exact rfl) (h:fzA s (xs.toList.map (aev s))=some s1:=by exact rfl):AP P X ops Q (o :: rest) s:=AP.gh (gh_fzA h) K
def fqv:=PLift.up (A2 @fzc.eq_1 (A2 @fzc.eq_2 (A2 @fzv.eq_1 (A2 @fzv.eq_2 (A2 @fzv.eq_3 (A2 @fzv.eq_4 (A2 @fzv.eq_5 (A2 @fzv.eq_6 (A2 @fzv.eq_7 (A2 @fzv.eq_8 (A2 @fzv.eq_9 (A2 @fzv.eq_10 (A2 @fzv.eq_11 (A2 @fzv.eq_12 (A2 @fzv.eq_13 (A2 @fzv.eq_14 (A2 @fzb.eq_1 (A2 @fzb.eq_2 @fzb.eq_3))))))))))))))))))
theorem fq:type_of% fqv.down:=fqv.down
def AV.pl:AV->Bool
 | .sc _ | .sl none _ _=>true
 | _=>false
def oRow (n:Nat) (av:AV):Option (Nat×List AV):=match av.pl with
 | true=>none
 | false=>some (n,[av])
def cRow (av:AV):List AV:=match av.pl with
 | true=>[av]
 | false=>[.de]
section
variable {X:Cx} {φ φ':Fi} {κ κ':Ka} {f:Nat->Ct} {L L':Ct} {s s':AS} {a:Act} {w w':World} {R:Nat->Prop} {o:Oper} {av:AV}
variable {ops:Array Oper} {rest:List Oper} {Q:Exit->AS->Prop}
theorem RE.split {k n:Nat}:∀ {rows:List (List AV)} {us:List Value} {S:Ct},RE w φ κ R k rows us S->n<=rows.length->∃ S1 S2,RE w φ κ R k (rows.take n) (us.take (n * k)) S1/\RE w φ κ R k (rows.drop n) (us.drop (n * k)) S2/\∀ x,S x=S1 x + S2 x:=by
 induction n with
 | zero=>intro rows us S h _;exact ⟨Ct.z,S,by simpa using RE.nil,by simpa using h,fun x=>by simp [Ct.z]⟩
 | succ n ih=>
  intro rows us S h hn
  cases h with
  | nil=>simp at hn
  | cons h1 h2 h3 h4 h5=>
   obtain ⟨S1,S2,e1,e2,e3⟩:=ih h4 (by simpa using hn)
   rename_i us' vs Sc T
   have q:(n + 1) * k=us'.length + n * k:=by rw [Nat.add_mul,h2];omega
   refine ⟨_,S2,?_,?_,fun x=>(by rw [h5,e3,←Nat.add_assoc])⟩
   ·rw [q,List.take_succ_cons,List.take_length_add_append];exact .cons h1 h2 h3 e1 fun _=>rfl
   ·rw [q,List.drop_succ_cons,List.drop_length_add_append];exact e2
end
section
variable {X:Cx} {φ φ':Fi} {κ κ':Ka} {f:Nat->Ct} {L L':Ct} {s s':AS} {a:Act} {w w':World} {R:Nat->Prop} {o:Oper} {av:AV} {ops:Array Oper} {rest:List Oper} {Q:Exit->AS->Prop}
theorem spl_append_mid {α:Type}:∀ (r a b c:List α) (o:Nat),o + r.length<=b.length->spl (a ++ b ++ c) (a.length + o) r=a ++ spl b o r ++ c
 | [],_,_,_,_,_=>rfl
 | x :: r,a,b,c,o,h=>by
  simp only [spl]
  have h1:(a ++ b ++ c).set (a.length + o) x=a ++ b.set o x ++ c:=by
   rw [List.append_assoc,List.set_append_right _ _ (by omega),Nat.add_sub_cancel_left,List.set_append_left _ _ (by simp at h;omega),List.append_assoc]
  rw [h1,Nat.add_assoc,spl_append_mid r a (b.set o x) c (o + 1) (by simp at h ⊢;omega)]
theorem Mk.spl {g:Nat} {cur:Array Value} {e:TypeId} (h:Mk w g cur e):∀ (us:List Value) (o:Nat),Mk (w.setCells g o us) g (spl cur.toList o us).toArray e:=by
 intro us o
 induction us generalizing w cur o with
 | nil=>simpa [Go.Proofs.YtnjllcnjcpfbhaaGreat.spl,World.setCells] using h
 | cons u us ih=>
  have h1:Mk (w.setCell ⟨g,o,none⟩ u) g (cur.setIfInBounds o u) e:=by
   obtain ⟨z,hz1,hz2⟩:=h;exact ⟨z,by simp [World.setCell,Array.getElem?_modify,hz1],by simpa using hz2⟩
  have:=ih h1 (o + 1)
  simpa [Go.Proofs.YtnjllcnjcpfbhaaGreat.spl,World.setCells] using this
def delK {α:Type} (l:List α):Option Nat->List α
 | some n=>l.eraseIdx n
 | none=>l
end
section
variable {X:Cx} {s:AS} {ops:Array Oper} {rest:List Oper} {Q:Exit->AS->Prop} {av:AV} {d:Option Nat} {ty:Nat} {pos:String} {aft:Array Edge} {T K E n:Nat} {x y z:Operand} {j u:Nat} {ks:List Value} {rows:List (List AV)} {op:Option (Nat×List AV)} {st:Option (Nat×Nat×Nat)} {kv:Value} {i ie:TI} {sh:List Sh} {c:ZC}
variable {e e' k off b:Nat} {cl:List AV} {ti:TI} {kk:IntKind} {jj:Int}
end
section
variable {s:AS} {ops:Array Oper} {all:List Oper} {K:AS->Prop} {acc:List Fp} {l:List Oper} {av:AV} {op:Op} {ty:Nat} {pos:String} {aft:Array Edge} {g:Option (Nat×Bool)} {d:Nat} {T:List Nat} {F:List Nat} {b2:List Sl} {r:Bool}
end
theorem re_bytes {w:World} {φ:Fi} {κ:Ka} {R:Nat->Prop}:∀ l:List UInt8,RE w φ κ R 1 (l.map eB) (l.map fun b=>Value.int .u8 (b.toNat:Int)) Ct.z
 | []=>.nil
 | b :: l=>by
  have:=RE.cons (k:=1) (c:=eB b) (us:=[Value.int .u8 (b.toNat:Int)]) (S:=Ct.z) (T:=Ct.z) (U:=Ct.z) (.cons (S:=Ct.z) (T:=Ct.z) (.sc rfl) .nil fun _=>rfl) rfl ⟨fun u hu=>by simp at hu;subst hu;rfl,fun x hx=>by simp [eB] at hx;subst hx;rfl⟩ (re_bytes (w:=w) (φ:=φ) (κ:=κ) (R:=R) l) fun _=>rfl
  exact this
section
variable {X:Cx} {s:AS} {ops:Array Oper} {rest:List Oper} {o:Oper} {Q:Exit->AS->Prop}
theorem ap_convS {U T e:Nat} {x:Operand} {sb:ByteArray} {iu i ie:TI} (hg:o.guard=none) (ho:o.op=.convert U T x) (hx:aev s x=.sc (.string sb)) (hU:tt[U]? = some iu) (hku:iu.kd=.sr) (hT:tt[T]? = some i) (hk:i.kd=.sl e) (he:tt[e]? = some ie) (hke:ie.kd=.it .u8) (hn:sb.size<=1000000) (heU:e=5)
 (K:AP prog X ops Q rest (AS.put ⟨s.t,(newS s.b (.r e 1 (sb.data.toList.map eB))).2⟩ o.dst (.hd (newS s.b (.r e 1 (sb.data.toList.map eB))).1.1 (newS s.b (.r e 1 (sb.data.toList.map eB))).1.2))):AP prog X ops Q (o :: rest) s:=
 .run hg (fun X φ κ f a w h=>by
  have hx':=h.evc hx
  have hrun:(execOp a.eval o).run prog w=.ok (.value (.slice (some ⟨w.heap.size,0,none⟩) sb.size (grownCap w sb.size 0 e))) (Lib.bytesWorld w e sb):=by
   simp only [execOp,ho,hx',Sem.run_bind,Lib.run_convert_string_bytes w U T e sb (ty_sr hU hku) (ty_sl hT hk) (ty_it he hke)];rfl
  have hge:=grownCap_ge w sb.size 0 e;have hcm:grownCap w sb.size 0 e<=maxLen:=grownCap_le_maxLen w sb.size 0 e (by unfold maxLen;omega)
  have hcs:(Lib.bytesCells w e sb).size=grownCap w sb.size 0 e:=by
   have:sb.data.size=sb.size:=rfl;simp [Lib.bytesCells];omega
  have hmk:Mk (Lib.bytesWorld w e sb) w.heap.size (Lib.bytesCells w e sb) e:=⟨_,Lib.bytesWorld_at_new w e sb,.inr (Nat.le_refl _),fun h=>absurd heU h⟩;have hold:∀ x,x < w.heap.size->(Lib.bytesWorld w e sb).heap[x]? = w.heap[x]?:=fun x hx=>Lib.bytesWorld_at_old w e sb x hx
  have hlr:(sb.data.toList.map eB).length=sb.size:=by simp
  have htk:(Lib.bytesCells w e sb).toList.take ((sb.data.toList.map eB).length * 1)=sb.data.toList.map fun b=>Value.int .u8 (b.toNat:Int):=by
   rw [hlr,Nat.mul_one];have:sb.data.size=sb.size:=rfl;simp only [Lib.bytesCells,Array.toList_append,Array.toList_map];exact List.take_left' (by simp [this])
  generalize hW:Lib.bytesWorld w e sb=w' at *;have hos:w'.os=w.os:=by rw [←hW];rfl
  have htp:w'.tape=w.tape:=by rw [←hW];rfl
  have hou:w'.output=w.output:=by rw [←hW];rfl
  have hsz:w.heap.size < w'.heap.size:=by rw [←hW,Lib.bytesWorld_size];omega
  obtain ⟨φ',κ',f',e1,e2,e3,e4,e5⟩:=h.newS_ (w':=w') (B:=.r e 1 (sb.data.toList.map eB)) (g:=fun x=>(if x=w.heap.size then 1 else 0) + Ct.z x) (L':=Ct.z) none (some (.slice (some ⟨w.heap.size,0,none⟩) sb.size (grownCap w sb.size 0 e))) (by omega) hos htp hou
   (fun x hx _=>hold x hx)
   (fun φ' κ' j u a b c d=>.r d (by
     have:=RV.om (e:=e) (cap:=grownCap w sb.size 0 e) (cur:=Lib.bytesCells w e sb) (re_bytes (w:=w') (φ:=φ') (κ:=κ') (R:=X.R) sb.data.toList) hmk (by rw [hlr];exact hge) hcm (by rw [hcs,Nat.mul_one]) htk (T:=fun x=>(if x=w.heap.size then 1 else 0) + Ct.z x) fun _=>rfl
     rw [hlr] at this;exact this))
   (fun x hx=>by simp only [Ct.z];rw [if_neg (by omega)];omega)
   (fun x hx=>by simp only [Ct.z];split<;>simp_all)
  exact ⟨_,_,φ',κ',f',hrun,e5.puts o.dst (.hd e4 rfl)⟩) K
end
theorem AP.CS {X:Cx} {s:AS} {ops:Array Oper} {rest:List Oper} {Q:Exit->AS->Prop} {U T e:Nat} {x:Operand} {sb:ByteArray} {iu i ie:TI} {d:Option Nat} {ty:Nat} {pos:String} {aft:Array Edge}
 (K:AP prog X ops Q rest (AS.put ⟨s.t,(newS s.b (.r e 1 (sb.data.toList.map eB))).2⟩ d (.hd (newS s.b (.r e 1 (sb.data.toList.map eB))).1.1 (newS s.b (.r e 1 (sb.data.toList.map eB))).1.2)))
 (hx:aev s x=.sc (.string sb):=by exact rfl) (hU:tt[U]? = some iu:=by exact rfl) (hku:iu.kd=.sr:=by exact rfl) (hT:tt[T]? = some i:=by exact rfl) (hk:i.kd=.sl e:=by exact rfl) (he:tt[e]? = some ie:=by exact rfl) (hke:ie.kd=.it .u8:=by exact rfl) (hn:sb.size<=1000000:=by omega) (heU:e=5:=by exact rfl) :
 AP prog X ops Q (⟨d,.convert U T x,ty,pos,aft,none⟩ :: rest) s:=ap_convS rfl rfl hx hU hku hT hk he hke hn heU K
section
variable {v:Value} {k n b u o i:Nat} {r:List (List AV)} {α:Type} {l:List α}
theorem cr_sc:cRow (.sc v)=[.sc v]:=rfl
theorem cr_sl:cRow (.sl none k r)=[.sl none k r]:=rfl
theorem cr_bp:cRow (.bp b u o)=[.de]:=rfl
theorem cr_hd:cRow (.hd b u)=[.de]:=rfl
theorem ow_sc:oRow n (.sc v)=none:=rfl
theorem ow_sl:oRow n (.sl none k r)=none:=rfl
theorem ow_bp:oRow n (.bp b u o)=some (n,[.bp b u o]):=rfl
theorem ow_hd:oRow n (.hd b u)=some (n,[.hd b u]):=rfl
theorem cp_sc:(AV.sc v).cp=.sc v:=rfl
theorem cp_sl:(AV.sl none k r).cp=.sl none k r:=rfl
theorem cp_bp:(AV.bp b u o).cp=.bp b u o:=rfl
theorem dk_some:delK l (some n)=l.eraseIdx n:=rfl
theorem dk_none:delK l none=l:=rfl
end
theorem mx:type_of% (And.intro @cr_sc (And.intro @cr_sl (And.intro @cr_bp (And.intro @cr_hd (And.intro @ow_sc (And.intro @ow_sl (And.intro @ow_bp (And.intro @ow_hd (And.intro @cp_sc (And.intro @cp_sl (And.intro @cp_bp (And.intro @dk_some @dk_none)))))))))))):=And.intro @cr_sc (And.intro @cr_sl (And.intro @cr_bp (And.intro @cr_hd (And.intro @ow_sc (And.intro @ow_sl (And.intro @ow_bp (And.intro @ow_hd (And.intro @cp_sc (And.intro @cp_sl (And.intro @cp_bp (And.intro @dk_some @dk_none)))))))))))
theorem AP.ST {G G':Prop} (K:G') (h:G'->G:=by (intro k;first|exact AP.S k|exact AP.E k|exact AP.T k|exact AP.F0 k|exact AP.A k|exact AP.AB 0 k|exact AP.AB 1 k|exact AP.AL k|exact AP.LB k|exact AP.TB k|exact AP.IX k|exact AP.SF k|exact AP.SV k|exact AP.CV k|exact AP.CO k|exact AP.FV k|fail)):G:=h K
theorem DW.ST {G G':Prop} (K:G') (h:G'->G:=by (intro k;first|exact DW.R k|exact DW.R' k|exact DW.W k|exact DW.W' k|exact DW.RA k|exact DW.A 0 k|exact DW.A 1 k|exact DW.A 2 k|exact DW.RX k|exact DW.WX k|exact DW.WX' k|fail)):G:=h K
theorem nq:type_of% (And.intro @nx (And.intro @mx (And.intro @rn (And.intro @fq (And.intro @Nat.mul_one (And.intro @Bool.and_true (And.intro @Bool.and_false @BEq.rfl.{0}))))))):=And.intro @nx (And.intro @mx (And.intro @rn (And.intro @fq (And.intro @Nat.mul_one (And.intro @Bool.and_true (And.intro @Bool.and_false @BEq.rfl.{0}))))))
theorem CP.TL {G G':Prop} (K:G') (h:G'->G:=by (intro k;first
 | ((with_reducible apply AP.k_nil);first|exact AP.nil (hQ' _ k)|exact AP.nil k)
 | ((with_reducible apply CP.k_drw1);exact cp_drawX k)
 | ((with_reducible apply DW.k_nil);refine DW.nl ?_;first|exact hQ' _ k|exact k)
 | (with_reducible apply CP.k_reg1;exact cp_region k)
 | ((with_reducible apply CP.k_cond);first|exact cp_condT rfl k|exact cp_condF rfl k)
 | exact CP.go k)):G:=h K
theorem CP.TN {G G':Prop} (K:G') (h:G'->G:=by (intro k;first
 | ((with_reducible apply AP.k_nil);first|exact AP.nil (hQ' _ k)|exact AP.nil k)
 | ((with_reducible apply DW.k_nil);refine DW.nl ?_;first|exact hQ' _ k|exact k)
 | (with_reducible apply CP.k_reg1;exact cp_region k)
 | ((with_reducible apply CP.k_cond);first|exact cp_condT rfl k|exact cp_condF rfl k)
 | exact CP.go k)):G:=h K
theorem AC.own {P:Program} {fn:Nat} {args:List AV} {bs:List Bx} {Q:AV->List Bx->Prop} (h:AC P fn (roC args) bs Q):AC P fn args bs Q:=by
 refine ⟨h.1,fun w φ κ R vs gs Sa Sb hr hrx hφ hφn hκ hone hown hR=>?_⟩
 have h2:=h.2 w φ κ (fun b=>R b\/Sa b≠0) vs gs Ct.z Sb (RC.ro_ hr) (RXs.mono (fun _ h=>.inl h) hrx) hφ hφn hκ (fun x=>by have:=hone x;simp only [Ct.z];omega) (fun x hx=>hown x (by simp only [Ct.z] at hx;omega)) (fun x hx=>by
  rcases hx with hx|hx
  ·have:=hR x hx;simp only [Ct.z];exact ⟨this.1,by omega⟩
  ·have h1:=hone x;have:=hown x (by omega);simp only [Ct.z];exact ⟨this,by omega⟩)
 refine h2.mono ?_;rintro e w' ⟨v,r,bs',gs',Sr,Sb',φ',F,h1,h3,h4,h5,h6,h7,h8,h9,h10,h11⟩
 have hup:∀ x,((R x\/Sa x≠0)\/F x)->(R x\/(Sa x≠0\/F x)):=fun x hx=>by
  rcases hx with (hx|hx)|hx
  ·exact .inl hx
  ·exact .inr (.inl hx)
  ·exact .inr (.inr hx)
 refine ⟨v,r,bs',gs',Sr,Sb',φ',fun x=>Sa x≠0\/F x,h1,h3,RV.hist (fun _ _ _ h=>h) (fun _ _ _ h=>h) hup h4,RXs.mono hup h5,h6,h7,h8,fun x hx=>?_,fun x hx=>?_,⟨h11.os,h11.tape,h11.output,h11.size,fun b hb hS=>h11.block b hb (by simp only [Ct.z];omega)⟩⟩
 ·rcases hx with hx|hx|hx
  ·have:=h9 x (.inl hx);simp only [Ct.z] at this;exact ⟨this.1,by omega⟩
  ·have h12:=hown x (by omega);have h13:=h11.size;exact ⟨by omega,.inl (by omega)⟩
  ·have:=h9 x (.inr hx);simp only [Ct.z] at this;exact ⟨this.1,by omega⟩
 ·rcases hx with hx|hx
  ·have h12:=hown x (by omega);have h13:=hone x
   by_cases h14:Sr x + Sb' x=0
   ·exact h14
   ·have:=h9 x (.inl h14);simp only [Ct.z] at this;omega
  ·exact h10 x hx
section
variable {X:Cx} {s s':AS} {o:Oper} {Q:Exit->AS->Prop} {ops:Array Oper} {rest:List Oper}
theorem pq_fneqC {op:BinOp} {T T':TypeId} {x y:Operand} {fn:Nat} {cap:List AV} {r:Bool} (ho:o.op=.binOp op T x y T') (hx:aev s x=.fn fn cap) (hy:aev s y=.sc .nilFunc) (hr:nilB op false=some r) (hT:(match prog.underlying T with|some (.func _ _ _)=>true | _=>false)=true):Pq prog X s o (.sc (.bool r)):=.of_run fun X φ κ f a w h=>by
 have hv:=h.evs hx
 have hcv:∃ b c,a.eval x=.func (.func fn) b c:=by
  generalize a.eval x=v at hv
  cases hv with|fn h=>unfold fnV;split<;>exact ⟨_,_,rfl⟩
 obtain ⟨b,c,hcv⟩:=hcv;exact ⟨_,.sc rfl,fun w' _=>run_fneq hT ho hcv (.inr ⟨⟨_,_,_,rfl⟩,rfl⟩) (h.evc hy) hr w'⟩
theorem AP.FC {op:BinOp} {T T':TypeId} {x y:Operand} {fn:Nat} {cap:List AV} {r:Bool} (K:AP prog X ops Q rest (s.put o.dst (.sc (.bool r)))) (hg:o.guard=none:=by exact rfl) (ho:o.op=.binOp op T x y T':=by exact rfl) (hx:aev s x=.fn fn cap:=by exact rfl) (hy:aev s y=.sc .nilFunc:=by exact rfl) (hr:nilB op false=some r:=by exact rfl)
 (hT:(match prog.underlying T with|some (.func _ _ _)=>true | _=>false)=true:=by kernel_rfl):AP prog X ops Q (o :: rest) s:=AP.pure hg (pq_fneqC ho hx hy hr hT) K
end
def dd:List Nat->List Nat->List Nat
 | [],acc=>acc
 | n :: l,acc=>match inN n acc with
  | true=>dd l acc
  | false=>dd l (n :: acc)
theorem dd_mem {i:Nat}:∀ {l acc:List Nat},i∈dd l acc↔i∈l\/i∈acc
 | [],acc=>by simp [dd]
 | n :: l,acc=>by
  unfold dd
  cases h:inN n acc with
  | true=>
   dsimp only;rw [dd_mem];have:=inN_mem.1 h;constructor
   ·rintro (h1|h1)
    ·exact .inl (List.mem_cons_of_mem _ h1)
    ·exact .inr h1
   ·rintro (h1|h1)
    ·rcases List.mem_cons.1 h1 with rfl|h1
     ·exact .inr this
     ·exact .inl h1
    ·exact .inr h1
  | false=>
   dsimp only;rw [dd_mem];constructor
   ·rintro (h1|h1)
    ·exact .inl (List.mem_cons_of_mem _ h1)
    ·rcases List.mem_cons.1 h1 with rfl|h1
     ·exact .inl (List.mem_cons_self ..)
     ·exact .inr h1
   ·rintro (h1|h1)
    ·rcases List.mem_cons.1 h1 with rfl|h1
     ·exact .inr (List.mem_cons_self ..)
     ·exact .inl h1
    ·exact .inr (List.mem_cons_of_mem _ h1)
def anc2:List Oper->List (List Nat)->List (List Nat)
 | [],acc=>acc
 | o :: l,acc=>anc2 l (acc ++ [dd ((depL o).flatMap fun d=>d :: acc.getD d []) []])
def sameM (A B:List (List Nat)):Prop:=A.length=B.length/\∀ k i,i∈A.getD k []↔i∈B.getD k []
theorem anc2_same:∀ {l:List Oper} {A B:List (List Nat)},sameM A B->sameM (anc2 l A) (ancs l B)
 | [],_,_,h=>h
 | o :: l,A,B,h=>by
  refine anc2_same (l:=l) ⟨by simp [h.1],fun k i=>?_⟩;simp only [List.getD_eq_getElem?_getD]
  by_cases hk:k < A.length
  ·rw [List.getElem?_append_left hk,List.getElem?_append_left (by rw [←h.1];exact hk)];have:=h.2 k i
   simpa only [List.getD_eq_getElem?_getD] using this
  ·rw [List.getElem?_append_right (by omega),List.getElem?_append_right (by rw [←h.1];omega),h.1]
   by_cases hz:k - B.length=0
   ·rw [hz]
    show i∈dd _ []↔i∈(depL o).flatMap fun d=>d :: B.getD d []
    rw [dd_mem];simp only [List.mem_flatMap,List.mem_cons,List.not_mem_nil,or_false,List.getD_eq_getElem?_getD];constructor
    ·rintro ⟨d,hd,h1|h1⟩
     ·exact ⟨d,hd,.inl h1⟩
     ·exact ⟨d,hd,.inr (by have:=(h.2 d i).1 (by rw [List.getD_eq_getElem?_getD];exact h1);rwa [List.getD_eq_getElem?_getD] at this)⟩
    ·rintro ⟨d,hd,h1|h1⟩
     ·exact ⟨d,hd,.inl h1⟩
     ·exact ⟨d,hd,.inr (by have:=(h.2 d i).2 (by rw [List.getD_eq_getElem?_getD];exact h1);rwa [List.getD_eq_getElem?_getD] at this)⟩
   ·obtain ⟨m,hm⟩:∃ m,k - B.length=m + 1:=⟨k - B.length - 1,by omega⟩;rw [hm];simp
theorem okRow_same {A B:List Nat} (h:∀ i,i∈A↔i∈B) (b:Fp):∀ (i:Nat) (l:List Fp),okRow A b i l=okRow B b i l
 | _,[]=>rfl
 | i,a :: l=>by
  have e:inN i A=inN i B:=by
   rw [Bool.eq_iff_iff,inN_mem,inN_mem];exact h i
  simp only [okRow,e,okRow_same h b (i + 1) l]
theorem okAll_same {A B:List (List Nat)} (h:sameM A B) (fs:List Fp):∀ (k:Nat) (l:List Fp),okAll A fs k l=okAll B fs k l
 | _,[]=>rfl
 | k,b :: l=>by
  simp only [okAll,okRow_same (h.2 k) b,okAll_same h fs (k + 1) l]
def okD2 (l:List Oper) (fs:List Fp):Bool:=okAll (anc2 l []) fs 0 fs
theorem okD2_of {l:List Oper} {fs:List Fp} (h:okD2 l fs=true):okD l fs=true:=by
 unfold okD2 at h;unfold okD;rw [←h];exact (okAll_same (anc2_same ⟨rfl,fun _ _=>Iff.rfl⟩) fs 0 fs).symm
theorem DW.nl2 {ops:Array Oper} {all:List Oper} {K:AS->Prop} {acc:List Fp} {s:AS} (hk:K s) (h:okD2 all acc.reverse=true:=by kernel_rfl):DW prog ops all K acc [] s:=DW.nil (okD2_of h) hk
theorem CP.T2 {G G':Prop} (K:G') (h:G'->G:=by (intro k;first
 | ((with_reducible apply AP.k_nil);first|exact AP.nil (hQ' _ k)|exact AP.nil k)
 | ((with_reducible apply CP.k_drw1);exact cp_drawX k)
 | ((with_reducible apply DW.k_nil);refine DW.nl2 ?_;first|exact hQ' _ k|exact k)
 | (with_reducible apply CP.k_reg1;exact cp_region k)
 | ((with_reducible apply CP.k_cond);first|exact cp_condT rfl k|exact cp_condF rfl k)
 | exact CP.go k)):G:=h K
section
variable {s:AS} {ops:Array Oper} {all:List Oper} {K:AS->Prop} {acc:List Fp} {l:List Oper} {av:AV} {op:Op} {ty:Nat} {pos:String} {aft:Array Edge} {g:Option (Nat×Bool)} {d:Nat} {T:List Nat} {F:List Nat} {b2:List Sl} {r:Bool}
end
structure Hid (A:Prop):Prop where
 un:A
theorem GV {G G':Prop} (K:G') (h:G'->G:=by (intro k;(with_reducible apply AP.k_any);exact AP.V k)):G:=h K
theorem wA1 {G G':Prop} (K:G') (h:G'->G:=by (intro kz;(with_reducible apply AP.k_any);first|exact AP.ST kz|(refine AP.Y ?_;dsimp only;exact kz))):G:=h K
theorem GA {G A B:Prop} (K:A) (L:B) (h:A->B->G:=by (intro k l;(with_reducible apply AP.k_any);exact AP.G k l)):G:=h K L
theorem wD1 {G G':Prop} (K:G') (h:G'->G:=by (intro kz;(with_reducible apply DW.k_any);exact DW.ST kz)):G:=h K
theorem wT1 {G G':Prop} (K:G') (h:G'->G:=by (intro kz;first|((with_reducible apply AP.k_nil);first|exact AP.nil (hQ' _ kz)|exact AP.nil kz)|((with_reducible apply CP.k_drw);exact cp_drwX kz)|((with_reducible apply CP.k_drw1);exact cp_drawX kz)|((with_reducible apply DW.k_nil);refine DW.nl2 ?_;first|exact hQ' _ kz|exact kz)|((with_reducible apply CP.k_reg);exact cp_regG kz)|exact CP.W kz)):G:=h K
theorem GC {G A B:Prop} (K:A) (L:B) (h:A->B->G:=by (intro k l;(with_reducible apply CP.k_cond);exact cp_cond rfl k l)):G:=h K L
theorem laq:type_of% (And.intro @List.append_eq.{0} (And.intro @List.cons_append.{0} @List.nil_append.{0})):=And.intro @List.append_eq.{0} (And.intro @List.cons_append.{0} @List.nil_append.{0})
theorem W1 {G A:Prop} (a:A) (h:Hid A->G:=by
 (intro kk
  repeat' (first|((first|refine wA1 ?_|(refine GA ?_ ?_<;>intro hg)|(refine GV ?_;intros;simp only [nz])|refine wD1 ?_)<;>(first|simp only [sm,nx,mx,rn,fq,List.length_map,Nat.mul_one,Bool.and_true,Bool.and_false,Nat.reduceBEq,Nat.reduceAdd,Nat.reduceSub,BEq.rfl]|simp only [nx,mx,rn,fq,List.length_map,Nat.mul_one,Bool.and_true,Bool.and_false,Nat.reduceBEq,Nat.reduceAdd,Nat.reduceSub,BEq.rfl]|skip))|refine wT1 ?_|with_reducible intro Q' hQ'|(refine GC ?_ ?_<;>intro hc)|simp only [laq])
  exact kk.un)):G:=h ⟨a⟩
theorem CP.SL {G' G:Prop} (K:G') (h:G'->G:=by (intro k;refine CP.gh gh_slot ?_;refine NX ?_;exact k)):G:=h K
section
variable {X:Cx} {s:AS} {ops:Array Oper} {rest:List Oper} {o:Oper} {Q:Exit->AS->Prop}
theorem Pq.fs {P:Program} {k:Nat} {r:List (List AV)} (h:Pq P X s o (.fs k r)):Pq P X s o (.sl none k r):=fun X' φ κ f a w hX hs=>by
 obtain ⟨v,hv,hr⟩:=h X' φ κ f a w hX hs
 cases hv with|fs h1 _=>exact ⟨v,h1,hr⟩
theorem pq_cap0 {T e:Nat} {x:Operand} {i:TI} (ho:o.op=.call { callee:=.builtin .cap,args:=#[x],argTypes:=#[T] }) (hx:aev s x=.sc (.slice none 0 0)) (hT:tt[T]? = some i) (hk:i.kd=.sl e):Pq prog X s o (.sc (.int .i64 0)):=.of_run fun X φ κ f a w h=>by
 have h1:=h.evc hx;have hu:=ty_sl hT hk;refine ⟨_,.sc rfl,fun w' _=>?_⟩;simp only [execOp,ho,resolve,invoke,builtin,Sem.run_bind,Sem.run_pure,Result.andThen_ok,List.map_toArray,List.map_cons,List.map_nil,h1];simp [Builtin.cap_,run_underlying hu,go_sem]
theorem pq_slice0 {T e:Nat} {x y:Operand} {kk:IntKind} {i ie:TI} (ho:o.op=.slice T x none (some y) none) (hx:aev s x=.sc (.slice none 0 0)) (hy:aev s y=.sc (.int kk ((0:Nat):Int))) (hT:tt[T]? = some i) (hk:i.kd=.sl e) (he:tt[e]? = some ie):Pq prog X s o (.sc (.slice none 0 0)):=.of_run fun X φ κ f a w h=>by
 have h1:=h.evc hx;have h2:=h.evc hy;have hb:=fun w=>run_bounds (n:=0) (c:=0) (l:=0) (h:=0) (m:=0) (lo:=none) (hi:=(some y).map a.eval) (mx:=none) (.inl ⟨rfl,rfl⟩) (.inr ⟨kk,by rw [Option.map_some,h2]⟩) (.inl ⟨rfl,rfl⟩) (Nat.le_refl _) (Nat.le_refl _) (Nat.le_refl _) w
 refine ⟨_,.sc rfl,fun w' _=>?_⟩;have:=run_slice (A:=none) (n:=0) (c:=0) (l:=0) (h:=0) (m:=0) (lo:=none) (hi:=(some y).map a.eval) (mx:=none) hT hk he hb w';simp only [execOp,ho,h1,Option.map_none,Sem.run_bind,this];rfl
theorem ap_trunc {T e k b u h:Nat} {x hi:Operand} {s1:List (List AV)} {i ie:TI} (hg:o.guard=none) (ho:o.op=.slice T x none (some hi) none) (hx:aev s x=.hd b u) (hs:s.b[b]? = some ⟨u,.r e k s1⟩) (hT:tt[T]? = some i) (hk:i.kd=.sl e) (he:tt[e]? = some ie)
 (hhi:Bd s (some hi) 0 h) (hle:h<=s1.length) (K:AP prog X ops Q rest (AS.put ⟨s.t,s.b.set b ⟨u + 1,.r e k (s1.take h)⟩⟩ o.dst (.hd b (u + 1)))):AP prog X ops Q (o :: rest) s:=
 .run hg (fun X φ κ f a w h0=>by
  have hv:=h0.hdv hx hs;obtain ⟨A,c,hA,hc1,hc2,hc3⟩:=hv.sl_form;rw [hA] at hv
  have hi':∃ k,(some hi).map a.eval=some (.int k h):=by
   cases hhi with
   | int hx=>exact ⟨_,by rw [Option.map_some,h0.evc hx]⟩
   | lit hx hz=>subst hz;exact ⟨_,by rw [Option.map_some,h0.evc hx]⟩
  have hb:=fun w=>run_bounds (n:=s1.length) (c:=c) (l:=0) (h:=h) (m:=c) (lo:=none) (hi:=(some hi).map a.eval) (mx:=none) (.inl ⟨rfl,rfl⟩) (.inr hi') (.inl ⟨rfl,rfl⟩) (Nat.zero_le _) (by omega) (Nat.le_refl _) w
  have hrun:(execOp a.eval o).run prog w=.ok (.value (.slice A h c)) w:=by
   have:=run_slice (A:=A) (n:=s1.length) (c:=c) (l:=0) (h:=h) (m:=c) (lo:=none) (hi:=(some hi).map a.eval) (mx:=none) hT hk he hb w
   have e:(if c=0 then A else A.map (·.add (0 * ie.size)))=A:=by
    split
    ·rfl
    ·cases A<;>simp [Addr.add]
   rw [e] at this;simp only [execOp,ho,hA,Option.map_none,Sem.run_bind,this];rfl
  have hcut:∃ S',(∀ φ' κ',RV w φ' κ' X.R (.sl (some e) k (s1.take h)) (.slice A h c) S')/\∀ x,S' x<=f b x:=by
   have hlt:(s1.take h).length=h:=by rw [List.length_take];omega
   generalize f b=F at hv;generalize hnn:s1.length=nn at hv hc1
   cases hv with
   | ni=>exact ⟨Ct.z,fun φ' κ'=>by (have e0:h=0:=by simp at hle;omega);subst e0;exact .ni,fun _=>Nat.zero_le _⟩
   | ne=>exact ⟨Ct.z,fun φ' κ'=>by (have e0:h=0:=by simp at hle;omega);subst e0;exact .ne,fun _=>Nat.zero_le _⟩
   | @om _ _ _ g cap cur us S _ hre hh hle2 hm hsz' htk hSx=>
    obtain ⟨S1,S2,h1,h2,h3⟩:=hre.split hle;refine ⟨fun x=>(if x=g then 1 else 0) + S1 x,fun φ' κ'=>?_,fun x=>by (try dsimp only);rw [hSx,h3];omega⟩
    have:=RV.om (φ:=φ') (κ:=κ') (e:=e) (cap:=c) (cur:=cur) (RE.any φ' κ' h1) hh (by omega) hm hsz' (by
     rw [hlt,←htk,List.take_take,Nat.min_eq_left (Nat.mul_le_mul_right _ hle)]) (fun x=>rfl)
    rw [hlt] at this;exact this
  obtain ⟨S',hcv,hcS⟩:=hcut;obtain ⟨_,ht⟩:=h0.take hs .x fun _ _=>.x
  have hbl:b < s.b.length:=(List.getElem?_eq_some_iff.1 hs).1;have hbx:(s.b.set b ⟨u,.x⟩)[b]? = some ⟨u,.x⟩:=List.getElem?_set_self hbl
  obtain ⟨φ',κ',f',e1,e2,e3,e4,e5⟩:=ht.newAt (w':=w) (B:=.r e k (s1.take h)) (g:=S') (L':=Ct.z) hbx none (some (.slice A h c)) (Nat.le_refl _) rfl rfl rfl (fun _ _ _=>rfl)
   (fun φ' κ' _ _ _ d=>.r d (hcv φ' κ')) (fun x _=>by have:=hcS x;simp only [Ct.z];omega) (fun x hx=>by
     have h1:=hcS x;have h2:=ht.own x;have h3:=ht.one x;dsimp only at h2 h3;simp only [Ct.z] at h2 h3 ⊢;exact ⟨by omega,fun h4=>(h2 (by omega)).1⟩)
  rw [List.set_set] at e5;exact ⟨_,_,φ',κ',f',hrun,e5.puts o.dst (.hd e4 rfl)⟩) K
theorem ap_appZ {T Tn e k:Nat} {x y:Operand} {kl:IntKind} {n:Nat} {i ie:TI} {z:List ZC} (hg:o.guard=none) (ho:o.op=.call { callee:=.builtin .append,args:=#[x,y],argTypes:=#[T,Tn] }) (hx:aev s x=.sc (.slice none 0 0)) (hy:aev s y=.sc (.int kl (n:Int))) (hT:tt[T]? = some i) (hk:i.kd=.sl e) (he:tt[e]? = some ie) (hz:ie.zero=some z)
 (hTn:(match prog.underlying Tn with|some (.int _)=>true | _=>false)=true)
 (hsz:ie.size=k) (hk0:Nat.ble 1 k=true) (hby:Nat.ble ie.bytes 100000=true) (hn0:0 < n) (hn:n<=1000000)
 (K:AP prog X ops Q rest (AS.put ⟨s.t,(newS s.b (.r e k (List.replicate n (z.map fun c=>AV.sc c.val)))).2⟩ o.dst (.hd (newS s.b (.r e k (List.replicate n (z.map fun c=>AV.sc c.val)))).1.1 (newS s.b (.r e k (List.replicate n (z.map fun c=>AV.sc c.val)))).1.2))):AP prog X ops Q (o :: rest) s:=
 .run hg (fun X φ κ f a w h=>by
  have hk0:=Nat.le_of_ble_eq_true hk0;have hby:=Nat.le_of_ble_eq_true hby
  obtain ⟨kn,hkn⟩:∃ kn,prog.underlying Tn=some (.int kn):=by
   split at hTn
   ·exact ⟨_,by assumption⟩
   ·cases hTn
  obtain ⟨d,j,hd,hj,_,hjs,hjb,hzz⟩:=TI.parts (ty he);obtain ⟨zv,hzv,hzc,hzl,_⟩:=hzz z hz;have hzk:z.length=k:=by rw [hzl,hsz]
  have hzs:zv.cells.size=k:=by rw [←Array.length_toList,hzc];simpa using hzk
  have hrow:RC w φ κ X.R (zrow z n) (Builtin.zeroCells zv.cells n).toList Ct.z:=RC.of_at (by simp [zrow_length,hzk,Builtin.zeroCells,hzs]) fun i b hi=>by
   have hil:i < n * k:=by have:=(List.getElem?_eq_some_iff.1 hi).1;rwa [zrow_length,hzk] at this
   rw [zrow_at (by omega) n i (by rwa [hzk])] at hi
   injection hi with hi;subst hi
   refine ⟨_,?_,.sc (ZC.one _)⟩;have hm:i % z.length < zv.cells.toList.length:=by rw [hzc];simpa using Nat.mod_lt _ (by omega)
   simp only [Builtin.zeroCells,hzs,Array.toList_map,Array.toList_range,List.getElem?_map,List.getElem?_range hil,Option.map_some,Option.some.injEq];have e9:zv.cells[i % k]! = zv.cells[i % z.length]!:=congrArg (fun m=>zv.cells[i % m]!) hzk.symm;rw [e9,getElem!_pos zv.cells (i % z.length) (by simpa using hm)];have:zv.cells.toList[i % z.length]'hm=(z[i % z.length]'(Nat.mod_lt _ (by omega))).val:=by simp only [hzc,List.getElem_map]
   simpa using this
  have hzl2:(Builtin.zeroCells zv.cells n).toList.length=n * k:=by simp [Builtin.zeroCells,hzs]
  have hone0:∀ v∈(Builtin.zeroCells zv.cells n).toList,v.oneCell'=true:=fun v hv=>by
   obtain ⟨i,hi,rfl⟩:=List.mem_iff_getElem.1 hv;have hil:i < n * k:=by rwa [hzl2] at hi
   obtain ⟨v,hv1,hv2⟩:=hrow.at_ (i:=i) (zrow_at (by omega) n i (by rwa [hzk]));rw [List.getElem?_eq_getElem hi] at hv1;injection hv1 with hv1
   rw [hv1];have:=RV.sc_inv hv2;rw [this];exact ZC.one _
  have hleaf:∀ x∈zrow z n,x.leaf=true:=fun x hx=>by
   obtain ⟨i,hi,rfl⟩:=List.mem_iff_getElem.1 hx;have hil:i < n * z.length:=by rwa [zrow_length] at hi
   have:=zrow_at (z:=z) (by omega) n i hil;rw [List.getElem?_eq_getElem hi] at this;injection this with this
   rw [this];rfl
  have hre:=RE.chunks_ hk0 n hrow (by rw [zrow_length,hzk]) hone0 hleaf;have e0:chunks k n (zrow z n)=List.replicate n (z.map fun c=>AV.sc c.val):=by rw [←hzk];exact chunks_zrow z n
  rw [e0] at hre;have hlr:(List.replicate n (z.map fun c=>AV.sc c.val)).length=n:=by simp
  have hsl:=ty_sl hT hk;have hx':=h.evc hx;have hy':=h.evc hy
  have hr:=Lib.run_append_nil_zeros (P:=prog) w T Tn o.type e j zv kl kn hsl hkn hj hzv n hn0 (by omega) (by omega) (by
   have:n * j.bytes<=1000000 * 100000:=Nat.mul_le_mul hn (by omega);omega)
  have hrun:(execOp a.eval o).run prog w=.ok (.value (.slice (some ⟨w.heap.size,0,none⟩) n (grownCap w n 0 e))) (w.drew.alloc (.cells (Builtin.zeroCells zv.cells n ++ Builtin.zeroCells zv.cells (grownCap w n 0 e - n)) e)):=by
   simp only [execOp,ho,resolve,invoke,builtin,Sem.run_bind,Sem.run_pure,Result.andThen_ok,List.map_toArray,List.map_cons,List.map_nil,hx',hy',hr]
  have hge:=grownCap_ge w n 0 e;have hmx:=grownCap_le_maxLen w n 0 e (by unfold maxLen;omega);generalize grownCap w n 0 e=c at hrun hge hmx
  have hcl:(Builtin.zeroCells zv.cells n ++ Builtin.zeroCells zv.cells (c - n)).size=c * k:=by
   simp only [Builtin.zeroCells,Array.size_append,Array.size_map,Array.size_range,hzs];rw [←Nat.add_mul,Nat.add_sub_cancel' hge]
  have htk:(Builtin.zeroCells zv.cells n ++ Builtin.zeroCells zv.cells (c - n)).toList.take (n * k)=(Builtin.zeroCells zv.cells n).toList:=by
   rw [Array.toList_append,List.take_append_of_le_length (by omega),List.take_of_length_le (by omega)]
  generalize Builtin.zeroCells zv.cells n ++ Builtin.zeroCells zv.cells (c - n)=cs at hrun hcl htk;generalize (Builtin.zeroCells zv.cells n).toList=us at hre htk
  obtain ⟨φ',κ',f',e1,e2,e3,e4,e5⟩:=h.newS_ (w':=w.drew.alloc (.cells cs e)) (B:=.r e k (List.replicate n (z.map fun c=>AV.sc c.val))) (g:=fun x=>(if x=w.heap.size then 1 else 0) + Ct.z x) (L':=Ct.z) none (some (.slice (some ⟨w.heap.size,0,none⟩) n c)) (by simp) rfl rfl rfl
   (fun x hx _=>Below.heap_alloc w.drew _ x hx)
   (fun φ' κ' j u a b c' d=>.r d (by
     have hkeep:=RE.keep (w:=w) (w':=w.drew.alloc (.cells cs e)) (fun x hx=>Below.heap_alloc w.drew _ x (h.blk (.inl hx))) (RE.any φ' κ' hre) (fun x hx=>absurd rfl hx);have:=RV.ow (e:=e) (cap:=c) (cur:=cs) hkeep (heap_alloc_new w.drew _) (by omega) hmx hcl (by rw [hlr];exact htk) fun _=>rfl
     rw [hlr] at this;exact this))
   (fun x hx=>by simp only [Ct.z];rw [if_neg (by omega)];omega)
   (fun x hx=>by simp only [Ct.z];split<;>simp_all)
  exact ⟨_,_,φ',κ',f',hrun,e5.puts o.dst (.hd e4 rfl)⟩) K
end
abbrev str (l:List UInt8):Value:=.string ⟨l.toArray⟩
theorem push_all:∀ (l:List UInt8) (s:ByteArray),(l.map fun b=>(b.toNat:Int)).foldl (fun r n=>r.push (UInt8.ofNat n.toNat)) s=⟨s.data ++ l.toArray⟩
 | [],s=>by simp
 | b :: l,s=>by
  rw [List.map_cons,List.foldl_cons,push_all l];simp [ByteArray.push]
section
variable {w w':World} {φ:Fi} {κ:Ka} {R:Nat->Prop} {P:Program}
theorem re_inv:∀ {l:List UInt8} {us:List Value} {S:Ct},RE w φ κ R 1 (l.map eB) us S->us=(l.map fun b=>(b.toNat:Int)).map (Value.int .u8)
 | [],_,_,h=>by rw [RE.nils h];rfl
 | b :: l,_,_,h=>by
  rw [List.map_cons] at h
  cases h with
  | cons h1 h2 h3 h4 h5=>
   rw [re_inv h4]
   cases h1 with
   | cons a1 a2 a3=>
    cases a2
    cases a1
    rfl
theorem bytes_run {oo:Option TypeId} {l:List UInt8} {v:Value} {S:Ct} (h:RV w φ κ R (.sl oo 1 (l.map eB)) v S) (hk:∀ x,R x\/S x≠0->w'.heap[x]? = w.heap[x]?):(Conv.bytesToString v).run P w'=.ok (str l) w':=by
 have h1:=RV.ro_ h;have e0:(AV.sl oo 1 (l.map eB)).ro=.sl none 1 (l.map eB):=by simp only [AV.ro,ro_B]
 rw [e0] at h1;generalize hr:l.map eB=rows at h1
 cases h1 with
 | ni=>
  obtain rfl:l=[]:=by cases l;rfl;cases hr
  simp [Conv.bytesToString,str];rfl
 | ne=>
  obtain rfl:l=[]:=by cases l;rfl;cases hr
  have:=run_bytesToString (P:=P) w' (by assumption) 0 0 [] (by simp [loadCells,loadCellsFrom]);exact this
 | @ro _ _ b o c us he hl hc hR hcell=>
  subst hr;have hus:=re_inv he
  by_cases hn:l=[]
  ·subst hn;have:=run_bytesToString (P:=P) w' ⟨b,o,none⟩ 0 c [] (by simp [loadCells,loadCellsFrom]);exact this
  ·have hne:l.map eB≠[]:=by simpa using hn
   have hb:=hk b (hR hne)
   have hld:=run_loadCells_list (P:=P) (w:=w') ⟨b,o,none⟩ us fun j v hj=>by
    have:=hcell j v hj
    have e:(⟨b,o,none⟩:Addr).add j=⟨b,o + j,none⟩:=by
     unfold Addr.add;split
     ·rename_i h0;subst h0;rfl
     ·rfl
    rw [e,World.cell?_of_block (a:=⟨b,o + j,none⟩) hb];exact this
   have hlen:us.length=(l.map eB).length:=by rw [hus];simp
   rw [hlen] at hld;rw [hus] at hld;have:=run_bytesToString (P:=P) w' ⟨b,o,none⟩ (l.map eB).length c _ hld;rw [push_all] at this;rw [this];simp [str]
end
section
variable {X:Cx} {s:AS} {ops:Array Oper} {rest:List Oper} {o:Oper} {Q:Exit->AS->Prop} {T U e:Nat} {x:Operand} {l:List UInt8} {it iu ie:TI}
theorem pq_str (ho:o.op=.convert T U x) (hx:aev s x=.sl none 1 (l.map eB)) (hT:tt[T]? = some it) (hk:it.kd=.sl e) (he:tt[e]? = some ie) (hke:ie.kd=.it .u8) (hU:tt[U]? = some iu) (hku:iu.kd=.sr):Pq prog X s o (.sc (str l)):=.of_run fun X φ κ f a w h=>by
 have h1:=h.evs hx;obtain ⟨A,n,c,hv⟩:=RV.sl_val h1;refine ⟨_,.sc rfl,fun w' hw=>?_⟩;have key:=bytes_run (w':=w') (P:=prog) h1 fun x hx=>hw.block _ (h.blk (.inl (hx.elim id fun h=>absurd rfl h)))
 rw [hv] at key;simp only [execOp,ho,hv,Sem.run_bind,run_convert_bytes_string w' T U e A n c (ty_sl hT hk) (ty_it he hke) (ty_sr hU hku),key];rfl
theorem pq_seq {bo:BinOp} {T':TypeId} {y:Operand} {m:List UInt8} {r:Bool} (ho:o.op=.binOp bo T x y T') (hx:aev s x=.sc (str l)) (hy:aev s y=.sc (str m)) (hT:tt[T]? = some it) (hk:it.kd=.sr) (hr:nilB bo (decide (l=m))=some r):Pq prog X s o (.sc (.bool r)):=.of_run fun X φ κ f a w h=>by
 have h1:=h.evc hx;have h2:=h.evc hy;refine ⟨_,.sc rfl,fun w' hw=>?_⟩;have e0:(⟨l.toArray⟩:ByteArray).toList=l:=by simp [ByteArray.toList_eq]
 have e1:(⟨m.toArray⟩:ByteArray).toList=m:=by simp [ByteArray.toList_eq]
 simp only [execOp,ho,h1,h2];have e2:(l == m)=decide (l=m):=by rw [Bool.eq_iff_iff];simp
 cases bo<;>cases hr<;>simp [eqGuard,binOp,Op.stringOp,e0,e1,e2,go_sem]
end
section
variable {X:Cx} {s:AS} {ops:Array Oper} {rest:List Oper} {Q:Exit->AS->Prop} {T U e:Nat} {x y:Operand} {l m:List UInt8} {it iu ie:TI} {d:Option Nat} {ty:Nat} {pos:String} {aft:Array Edge}
theorem AP.SS1 (K:AP prog X ops Q rest (s.put d (.sc (str l)))) (hx:aev s x=.sl none 1 (l.map eB):=by exact rfl) (hT:tt[T]? = some it:=by exact rfl) (hk:it.kd=.sl e:=by exact rfl) (he:tt[e]? = some ie:=by exact rfl) (hke:ie.kd=.it .u8:=by exact rfl) (hU:tt[U]? = some iu:=by exact rfl) (hku:iu.kd=.sr:=by exact rfl):AP prog X ops Q (⟨d,.convert T U x,ty,pos,aft,none⟩ :: rest) s:=AP.pure rfl (pq_str rfl hx hT hk he hke hU hku) K
theorem AP.SQ {bo:BinOp} {T':TypeId} {r:Bool} (K:AP prog X ops Q rest (s.put d (.sc (.bool r)))) (hx:aev s x=.sc (str l):=by exact rfl) (hy:aev s y=.sc (str m):=by exact rfl) (hT:tt[T]? = some it:=by exact rfl) (hk:it.kd=.sr:=by exact rfl) (hr:nilB bo (decide (l=m))=some r:=by exact rfl):AP prog X ops Q (⟨d,.binOp bo T x y T',ty,pos,aft,none⟩ :: rest) s:=AP.pure rfl (pq_seq rfl hx hy hT hk hr) K
theorem AP.SS {G G':Prop} (K:G') (h:G'->G:=by (intro k;first|exact AP.SS1 k|exact AP.SQ k|exact AP.CS k)):G:=h K
end
def ordB:BinOp->Bool->Bool->Option Bool
 | .lss,lt,_=>some lt
 | .leq,lt,eq=>some (lt || eq)
 | .gtr,lt,eq=>some !(lt || eq)
 | .geq,lt,_=>some !lt
 | _,_,_=>none
section
variable {X:Cx} {s:AS} {ops:Array Oper} {rest:List Oper} {o:Oper} {Q:Exit->AS->Prop} {T:Nat} {x y:Operand} {l m:List UInt8} {it:TI} {bo:BinOp} {T':TypeId} {r:Bool} {d:Option Nat} {ty:Nat} {pos:String} {aft:Array Edge}
theorem pq_sord (ho:o.op=.binOp bo T x y T') (hx:aev s x=.sc (str l)) (hy:aev s y=.sc (str m)) (hT:tt[T]? = some it) (hk:it.kd=.sr) (hr:ordB bo (Op.bytesLess l m) (l == m)=some r):Pq prog X s o (.sc (.bool r)):=.of_run fun X φ κ f a w h=>by
 have h1:=h.evc hx;have h2:=h.evc hy;refine ⟨_,.sc rfl,fun w' hw=>?_⟩;have e0:(⟨l.toArray⟩:ByteArray).toList=l:=by simp [ByteArray.toList_eq]
 have e1:(⟨m.toArray⟩:ByteArray).toList=m:=by simp [ByteArray.toList_eq]
 simp only [execOp,ho,h1,h2]
 cases bo<;>first|(cases hr;done)|(simp only [ordB,Option.some.injEq] at hr;subst hr;simp [binOp,Op.stringOp,e0,e1,go_sem])
theorem AP.SO (K:AP prog X ops Q rest (s.put d (.sc (.bool r)))) (hx:aev s x=.sc (str l):=by exact rfl) (hy:aev s y=.sc (str m):=by exact rfl) (hT:tt[T]? = some it:=by exact rfl) (hk:it.kd=.sr:=by exact rfl) (hr:ordB bo (Op.bytesLess l m) (l == m)=some r:=by exact rfl):AP prog X ops Q (⟨d,.binOp bo T x y T',ty,pos,aft,none⟩ :: rest) s:=AP.pure rfl (pq_sord rfl hx hy hT hk hr) K
end
theorem bsz (l:List UInt8):(⟨l.toArray⟩:ByteArray).size=l.length:=by simp [ByteArray.size]
def ascB {α κ:Type} (key:α->κ) (lt:κ->κ->Bool) (ok:Bool->α->Bool):Option κ->List α->Bool
 | _,[]=>true
 | o,x :: l=>ok o.isNone x && (match o with
  | none=>true
  | some k=>lt k (key x)) && ascB key lt ok (some (key x)) l
def asc {α κ:Type} (key:α->κ) (lt:κ->κ->Bool) (ok:α->Bool):Option κ->List α->Bool:=ascB key lt fun _=>ok
def prv {α κ:Type} (key:α->κ) (l:List α) (i:Nat):Option κ:=match i with
 | 0=>none
 | i + 1=>(l[i]?).map key
theorem prv_none {α κ:Type} (key:α->κ) {l:List α} {i:Nat} (h:i<=l.length):(prv key l i).isNone=decide (i=0):=by
 cases i with
 | zero=>rfl
 | succ i=>show ((l[i]?).map key).isNone=_;rw [List.getElem?_eq_getElem (by omega)];rfl
section
variable {α κ:Type} {key:α->κ} {lt:κ->κ->Bool} {ok:Bool->α->Bool} {l:List α} {i:Nat}
theorem ascB_at (h:i < l.length):ascB key lt ok (prv key l i) (l.drop i)=(ok (prv key l i).isNone l[i] && (match prv key l i with
 | none=>true
 | some k=>lt k (key l[i])) && ascB key lt ok (prv key l (i + 1)) (l.drop (i + 1))):=by
 rw [List.drop_eq_getElem_cons h];have e:prv key l (i + 1)=some (key l[i]):=by show (l[i]?).map key=_;rw [List.getElem?_eq_getElem h];rfl
 rw [e];rfl
theorem ascB_end:ascB key lt ok (prv key l l.length) (l.drop l.length)=true:=by rw [List.drop_length];rfl
theorem ascB_bad (h:i < l.length) (hb:(ok (prv key l i).isNone l[i] && (match prv key l i with
 | none=>true
 | some k=>lt k (key l[i])))=false):ascB key lt ok (prv key l i) (l.drop i)=false:=by rw [ascB_at h,hb];rfl
theorem ascB_go (h:i < l.length) (hb:(ok (prv key l i).isNone l[i] && (match prv key l i with
 | none=>true
 | some k=>lt k (key l[i])))=true):ascB key lt ok (prv key l i) (l.drop i)=ascB key lt ok (prv key l (i + 1)) (l.drop (i + 1)):=by rw [ascB_at h,hb];rfl
end
section
variable {α κ:Type} {key:α->κ} {lt:κ->κ->Bool} {ok:α->Bool}
theorem asc_end {l:List α}:asc key lt ok (prv key l l.length) (l.drop l.length)=true:=ascB_end
theorem asc_bad {l:List α} {i:Nat} (h:i < l.length) (hb:(ok l[i] && (match prv key l i with
 | none=>true
 | some k=>lt k (key l[i])))=false):asc key lt ok (prv key l i) (l.drop i)=false:=ascB_bad (ok:=fun _=>ok) h hb
theorem asc_go {l:List α} {i:Nat} (h:i < l.length) (hb:(ok l[i] && (match prv key l i with
 | none=>true
 | some k=>lt k (key l[i])))=true):asc key lt ok (prv key l i) (l.drop i)=asc key lt ok (prv key l (i + 1)) (l.drop (i + 1)):=ascB_go (ok:=fun _=>ok) h hb
theorem asc_all:∀ {l:List α} {o:Option κ},asc key lt ok o l=true->∀ x∈l,ok x=true
 | [],_,_=>fun x hx=>by cases hx
 | a :: l,o,h=>fun x hx=>by
  simp only [asc,ascB,Bool.and_eq_true] at h;rcases List.mem_cons.1 hx with rfl|hx
  ·exact h.1.1
  ·exact asc_all (o:=some (key a)) h.2 x hx
end
def idxF {α:Type} (p:α->Bool) (l:List α):Int:=match l.findIdx? p with
 | some n=>n
 | none=>-1
theorem idxF_at {α:Type} {p:α->Bool} {l:List α} {a:Nat} (h:a < l.length) (hp:p l[a]=true) (hn:∀ i x,i < a->l[i]? = some x->p x=false):idxF p l=a:=by
 have:l.findIdx? p=some a:=List.findIdx?_eq_some_iff_getElem.2 ⟨h,hp,fun j hj=>by
  have:=hn j l[j] hj (List.getElem?_eq_getElem (by omega));simp [this]⟩
 unfold idxF;rw [this]
theorem idxF_no {α:Type} {p:α->Bool} {l:List α} (hn:∀ x∈l,p x=false):idxF p l = -1:=by
 have:l.findIdx? p=none:=List.findIdx?_eq_none_iff.2 hn;unfold idxF;rw [this]
theorem idxF_cases {α:Type} (p:α->Bool) (l:List α):(idxF p l = -1/\∀ x∈l,p x=false)\/∃ n x,idxF p l=(n:Nat)/\l[n]? = some x/\p x=true/\∀ i y,i < n->l[i]? = some y->p y=false:=by
 cases h:l.findIdx? p with
 | none=>exact .inl ⟨by unfold idxF;rw [h],List.findIdx?_eq_none_iff.1 h⟩
 | some n=>
  obtain ⟨h1,h2,h3⟩:=List.findIdx?_eq_some_iff_getElem.1 h;refine .inr ⟨n,l[n],by unfold idxF;rw [h],List.getElem?_eq_getElem h1,h2,fun i y hi hy=>?_⟩;obtain ⟨hil,rfl⟩:=List.getElem?_eq_some_iff.1 hy;have:=h3 i hi
  simpa using this
abbrev tB:TypeId:=22
abbrev eS (l:List UInt8):List AV:=[bs none l]
abbrev bss (o:Option TypeId) (ls:List (List UInt8)):AV:=.sl o 1 (ls.map eS)
theorem ro_S (l:List (List UInt8)):roE (l.map eS)=l.map eS:=by
 rw [roE_map];refine List.map_congr_left fun x _=>?_
 simp only [eS,roC,AV.ro,ro_B]
theorem wA2 {G G':Prop} (K:G') (h:G'->G:=by (intro kz;(with_reducible apply AP.k_any);exact AP.S kz)):G:=h K
theorem wT2 {G G':Prop} (K:G') (h:G'->G:=by (intro kz;first|((with_reducible apply AP.k_nil);first|exact AP.nil (hQ' _ kz)|exact AP.nil kz)|((with_reducible apply CP.k_reg);exact cp_regG kz)|exact CP.W kz)):G:=h K
theorem wcat_ac (ls:List (List UInt8)) (hl:ls.length<=100000000) (hf:ls.flatten.length<=100000000) :
 AF 74 [bss none ls] (bs (some tU) ls.flatten):=by
 refine AC.E func74 ntmps74 ?_;intros
 repeat' (first|((first|refine wA2 ?_|((with_reducible apply AP.k_any);first|refine AP.E ?_))<;>try refine NX ?_)|refine wT2 ?_|with_reducible intro Q' hQ'|(refine GC ?_ ?_<;>intro hc)|simp only [laq])
 refine CP.gh (gh_nil (t:=3) (e:=tU) (k:=1) rfl) ?_;refine NX ?_;refine cp_loopS [3,5,8,9,10,11,12,13,14,15] (fun a:Nat×Nat=>ls.length - a.1) (fun a=>a.1<=ls.length) (fun a=>[(8,I a.1),(3,.hd 0 a.2)]) (fun a=>[(0,⟨a.2,.r tU 1 ((ls.take a.1).flatten.map eB)⟩)]) (0,1) (Nat.zero_le _) (by exact Gh.W) ?_;rintro ⟨k,u⟩ hk;refine ST0 ?_;dsimp only at hk
 by_cases hlt:k < ls.length
 ·have hw:IntKind.i64.wrap ((k:Int) + 1)=((k + 1:Nat):Int):=wrap_i64 (by omega) (by omega)
  have hlen:(ls.take k).flatten.length + ls[k].length<=100000000:=by
   have h1:(ls.take k).flatten ++ ls[k]=(ls.take (k + 1)).flatten:=by rw [List.take_succ_eq_append_getElem hlt,List.flatten_append,List.flatten_cons,List.flatten_nil,List.append_nil]
   have h2:(ls.take (k + 1)).flatten ++ (ls.drop (k + 1)).flatten=ls.flatten:=by rw [←List.flatten_append,List.take_append_drop]
   have h3:=congrArg List.length h1;have h4:=congrArg List.length h2;simp only [List.length_append] at h3 h4;omega
  have hlen2:((ls.take k).flatten.map eB).length + (ls[k].map eB).length<=1000000000:=by rw [List.length_map,List.length_map];omega
  repeat' (first|((first|refine wA2 ?_|((with_reducible apply AP.k_any);first|refine AP.E ?_))<;>try refine NX ?_)|refine wT2 ?_|with_reducible intro Q' hQ'|(refine GC ?_ ?_<;>intro hc)|simp only [laq])
  ·simp only [hw];refine ⟨(k + 1,u + 1),by (dsimp only;omega),by (dsimp only;omega),?_⟩;have h1:(ls.take (k + 1)).flatten.map eB=(ls.take k).flatten.map eB ++ ls[k].map eB:=by rw [List.take_succ_eq_append_getElem hlt,List.flatten_append,List.flatten_cons,List.flatten_nil,List.append_nil,List.map_append]
   simp only [h1];exact Gh.W
  ·exfalso;simp at *;omega
 ·obtain rfl:k=ls.length:=by omega
  rw [List.take_length]
  repeat' (first|((first|refine wA2 ?_|((with_reducible apply AP.k_any);first|refine AP.E ?_))<;>try refine NX ?_)|refine wT2 ?_|with_reducible intro Q' hQ'|(refine GC ?_ ?_<;>intro hc)|simp only [laq])
  all_goals first
   | (exfalso;simp at *;done)
   | (exfalso;simp at *;omega)
   | (refine RB1 ?_;(exact ⟨rfl,rfl⟩))
def putS (x:Nat):Nat->List UInt8
 | 0=>[]
 | n + 1=>UInt8.ofNat (x / 256 ^ n % 256) :: putS x n
theorem putS_length (x:Nat):∀ n,(putS x n).length=n
 | 0=>rfl
 | n + 1=>by simp [putS,putS_length x n]
theorem put_set (x n i:Nat) (hi:i < n):(List.replicate (n - i) (0:UInt8) ++ putS x i).set (n - 1 - i) (UInt8.ofNat (x / 256 ^ i % 256))=List.replicate (n - (i + 1)) (0:UInt8) ++ putS x (i + 1):=by
 have e:List.replicate (n - i) (0:UInt8)=List.replicate (n - (i + 1)) 0 ++ [0]:=by
  rw [show n - i=n - (i + 1) + 1 by omega,List.replicate_succ']
 rw [e,List.append_assoc,List.set_append_right _ _ (by simp;omega)];simp only [List.length_replicate,show n - 1 - i - (n - (i + 1))=0 by omega,List.cons_append,List.nil_append,List.set_cons_zero,putS]
theorem byte_of (x i:Nat) (hi:i < 8):IntKind.u8.wrap (((x:Int)).fdiv (2 ^ (min (8 * i) 64)))=((UInt8.ofNat (x / 256 ^ i % 256)).toNat:Int):=by
 have h1:min (8 * i) 64=8 * i:=by omega
 have h2:(2:Int) ^ (8 * i)=((256 ^ i:Nat):Int):=by
  rw [Int.pow_mul];simp [Int.natCast_pow]
 rw [h1,h2,Int.fdiv_eq_ediv_of_nonneg _ (Int.natCast_nonneg _)];have h3:((x:Int) / ((256 ^ i:Nat):Int))=((x / 256 ^ i:Nat):Int):=by simp
 rw [h3];generalize x / 256 ^ i=y;rw [UInt8.toNat_ofNat'];simp [IntKind.wrap,IntKind.bits,IntKind.signed]
theorem put_ac (x n:Nat) (hn:n<=8) :
 AF 164 [.sc (.int .u64 (x:Int)),I n] (bs (some tU) (putS x n)):=by
 refine AC.E func164 ntmps164 ?_;intros
 repeat' (first|((first|refine wA2 ?_|((with_reducible apply AP.k_any);first|refine AP.E ?_|refine AP.T ?_)|((with_reducible apply AP.k_any);refine ap_makeS rfl rfl rfl rfl rfl rfl rfl rfl rfl rfl rfl (by omega) ?_))<;>try refine NX ?_)|refine wT2 ?_|with_reducible intro Q' hQ'|(refine GC ?_ ?_<;>intro hc)|simp only [laq])
 have e0:(List.replicate n [AV.sc (.int .u8 0)])=(List.replicate (n - 0) (0:UInt8) ++ putS x 0).map eB:=by simp [List.map_replicate,putS]
 simp only [List.map_cons,List.map_nil,ZC.val,e0];refine cp_loopS [6,10,11,12,13,14,15,16,17,18,19,20,21,22,23,24] (fun i:Nat=>n - i) (fun i=>i<=n) (fun i=>[(10,I i)]) (fun i=>[(0,⟨1,.r tU 1 ((List.replicate (n - i) (0:UInt8) ++ putS x i).map eB)⟩)]) 0 (Nat.zero_le _) (by exact Gh.W) ?_;rintro i hi;refine ST0 ?_
 by_cases hlt:i < n
 ·have hw:IntKind.i64.wrap ((i:Int) + 1)=((i + 1:Nat):Int):=wrap_i64 (by omega) (by omega);have h8:IntKind.i64.wrap (8 * (i:Int))=((8 * i:Nat):Int):=by rw [wrap_i64 (by omega) (by omega)];simp
  have h1:IntKind.i64.wrap ((n:Int) - 1)=((n - 1:Nat):Int):=by rw [wrap_i64 (by omega) (by omega)];omega
  have h9:IntKind.i64.wrap (IntKind.i64.wrap ((n:Int) - 1) - i)=((n - 1 - i:Nat):Int):=by rw [h1,wrap_i64 (by omega) (by omega)];omega
  have hpl:=putS_length x i;have hlen:(List.replicate (n - i) (0:UInt8) ++ putS x i).length=n:=by simp [hpl];omega
  have hby:=byte_of x i (by omega);have hset:=put_set x n i hlt
  repeat' (first|((first|refine wA2 ?_|((with_reducible apply AP.k_any);first|refine AP.E ?_|refine AP.T ?_))<;>try refine NX ?_)|refine wT2 ?_|with_reducible intro Q' hQ'|(refine GC ?_ ?_<;>intro hc)|simp only [laq])
  ·simp only [hw,h8,h9,Int.toNat_natCast];refine ⟨i + 1,by omega,by omega,?_⟩;have e1:IntKind.u8.wrap ((x:Int).fdiv (2 ^ (min (8 * i) IntKind.u64.bits)))=((UInt8.ofNat (x / 256 ^ i % 256)).toNat:Int):=hby;rw [e1,show ∀ y:UInt8,[AV.sc (.int .u8 (y.toNat:Int))]=eB y from fun _=>rfl,←List.map_set,hset];exact Gh.W
  ·exfalso;simp at *;omega
 ·obtain rfl:i=n:=by omega
  repeat' (first|((first|refine wA2 ?_|((with_reducible apply AP.k_any);first|refine AP.E ?_|refine AP.T ?_))<;>try refine NX ?_)|refine wT2 ?_|with_reducible intro Q' hQ'|(refine GC ?_ ?_<;>intro hc)|simp only [laq])
  all_goals first
   | (exfalso;simp at *;done)
   | (exfalso;simp at *;omega)
   | (refine RB1 ?_;(exact ⟨by simp,rfl⟩))
theorem aC1 {p G G':Prop} (c:p) (K:G') (h:p->G'->G:=by (intro c kz;(with_reducible apply AP.k_any);exact AP.C c kz)):G:=h c K
theorem put64_ac (x:Nat) :
 AF 99 [.sc (.int .u64 (x:Int))] (bs none (putS x 8)):=by
 have h:=(put_ac x 8 (by omega)).ro (r2:=bs none (putS x 8)) (by simp [AV.ro,ro_B]);refine AC.E func99 ntmps99 ?_;intros
 repeat' (first|((first|refine wA2 ?_|refine aC1 h ?_)<;>try refine NX ?_)|refine wT2 ?_|with_reducible intro Q' hQ'|(refine GC ?_ ?_<;>intro hc)|simp only [laq])
 (refine RB1 ?_;(exact ⟨rfl,rfl⟩))
abbrev tW:TypeId:=224
abbrev wB (st:Bool×List UInt8):Bx:=.c tW [B true,B st.1,bs (some tU) st.2]
def addS (st:Bool×List UInt8) (b:List UInt8):Bool×List UInt8:=if st.1=true\/65536 < st.2.length + b.length then (true,st.2) else (false,st.2 ++ b)
theorem addS_len {st:Bool×List UInt8} {b:List UInt8} (h:st.2.length<=65536):(addS st b).2.length<=65536:=by
 unfold addS;split
 ·exact h
 ·simp;omega
theorem wA3 {G G':Prop} (K:G') (h:G'->G:=by (intro kz;(with_reducible apply AP.k_any);first|exact AP.S kz|(refine AP.Y ?_;dsimp only;exact kz))):G:=h K
theorem add_ac (st:Bool×List UInt8) (ls:List (List UInt8)) (hst:st.2.length<=65536) (hl:ls.length<=1000) (hb:∀ b∈ls,b.length<=100000000) :
 AC prog 180 [.bp 0 0 0,bss (some tB) ls] [wB st] (fun v bs'=>v=.bp 0 0 0/\bs'=[wB (ls.foldl addS st)]):=by
 refine AC.E func180 ntmps180 ?_;intros
 repeat' (first|((first|refine wA3 ?_|((with_reducible apply AP.k_any);first|refine AP.E ?_|refine AP.T ?_)|(refine GA ?_ ?_<;>intro hg)|(refine GV ?_;intros;simp only [nz]))<;>try refine NX ?_)|refine wT2 ?_|with_reducible intro Q' hQ'|(refine GC ?_ ?_<;>intro hc)|simp only [laq])
 refine cp_loopS [6,19,20,21,22,23,24,25,26,27,28,29,30,31,32,33,34,35,36,37,38,39,40,41,42,43,44,45,46,47,48,49,50,51,52,53,54,55] (fun a:Nat×(Bool×List UInt8)×Nat=>ls.length - a.1) (fun a=>a.1<=ls.length/\a.2.1=(ls.take a.1).foldl addS st/\a.2.1.2.length<=65536) (fun a=>[(19,I a.1)]) (fun a=>[(0,⟨0,.c tW [B true,B a.2.1.1,.hd 1 a.2.2]⟩),(1,⟨a.2.2,.r tU 1 (a.2.1.2.map eB)⟩)]) (0,st,1) ⟨Nat.zero_le _,rfl,hst⟩ (by exact Gh.W) ?_;rintro ⟨k,⟨lg,acc⟩,u⟩ ⟨hk,hs,ha⟩;refine ST0 ?_;dsimp only at hk hs ha
 by_cases hlt:k < ls.length
 ·have hw:IntKind.i64.wrap ((k:Int) + 1)=((k + 1:Nat):Int):=wrap_i64 (by omega) (by omega);have hw2:IntKind.i64.wrap (65536 - (acc.length:Int))=((65536 - acc.length:Nat):Int):=by rw [wrap_i64 (by omega) (by omega)];omega
  have hbk:=hb ls[k] (List.getElem_mem hlt);have hfo:(ls.take (k + 1)).foldl addS st=addS (lg,acc) ls[k]:=by rw [List.take_succ_eq_append_getElem hlt,List.foldl_append,←hs];rfl
  have hal:=addS_len (st:=(lg,acc)) (b:=ls[k]) ha
  repeat' (first|((first|refine wA3 ?_|((with_reducible apply AP.k_any);first|refine AP.E ?_|refine AP.T ?_)|(refine GA ?_ ?_<;>intro hg)|(refine GV ?_;intros;simp only [nz]))<;>try refine NX ?_)|refine wT2 ?_|with_reducible intro Q' hQ'|(refine GC ?_ ?_<;>intro hc)|simp only [laq])
  ·subst hg;have e:addS (true,acc) ls[k]=(true,acc):=by simp [addS]
   simp only [hw];exact ⟨(k + 1,(true,acc),u),by (dsimp only;omega),⟨by (dsimp only;omega),by rw [hfo,e],ha⟩,by exact Gh.W⟩
  ·subst hg;have hd:decide (IntKind.i64.wrap (65536 - (acc.length:Int)) < (ls[k].length:Int))=false:=by simpa using hc
   have hd2:=hd;rw [hw2] at hd2;simp at hd2;have e:addS (false,acc) ls[k]=(false,acc ++ ls[k]):=by simp [addS];omega
   simp only [hw,hd];refine ⟨(k + 1,(false,acc ++ ls[k]),u + 1),by (dsimp only;omega),⟨by (dsimp only;omega),by rw [hfo,e],by (dsimp only;rw [List.length_append];omega)⟩,?_⟩;simp only [List.map_append];exact Gh.W
  ·subst hg;have hd:decide (IntKind.i64.wrap (65536 - (acc.length:Int)) < (ls[k].length:Int))=true:=by simpa using hc
   have hd2:=hd;rw [hw2] at hd2;simp at hd2;have e:addS (false,acc) ls[k]=(true,acc):=by simp [addS];omega
   simp only [hw,hd];exact ⟨(k + 1,(true,acc),u),by (dsimp only;omega),⟨by (dsimp only;omega),by rw [hfo,e],ha⟩,by exact Gh.W⟩
  ·exfalso;simp at *;omega
 ·obtain rfl:k=ls.length:=by omega
  rw [List.take_length] at hs;rw [←hs]
  repeat' (first|((first|refine wA3 ?_|((with_reducible apply AP.k_any);first|refine AP.E ?_|refine AP.T ?_)|(refine GA ?_ ?_<;>intro hg)|(refine GV ?_;intros;simp only [nz]))<;>try refine NX ?_)|refine wT2 ?_|with_reducible intro Q' hQ'|(refine GC ?_ ?_<;>intro hc)|simp only [laq])
  all_goals first
   | (exfalso;simp at *;done)
   | (exfalso;simp at *;omega)
   | exact RA1
theorem aC2 {p G G':Prop} (c:p) (K:G') (h:p->G'->G:=by (intro c kz;(with_reducible apply AP.k_any);exact AP.CB [(0,0)] 0 c kz)):G:=h c K
theorem wA4 {G G':Prop} (K:G') (h:G'->G:=by (intro kz;(with_reducible apply AP.k_any);exact AP.Z kz)):G:=h K
theorem wbyte_ac (st:Bool×List UInt8) (x:UInt8) (hst:st.2.length<=65536) :
 AC prog 120 [.bp 0 0 0,U x] [wB st] (fun v bs'=>v=.bp 0 0 0/\bs'=[wB (addS st [x])]):=by
 refine AC.E func120 ntmps120 ?_;intros
 repeat' (first|((first|refine wA4 ?_|refine aC2 (add_ac st [[x]] hst (by simp) (by simp)) ?_)<;>try refine NX ?_)|refine wT2 ?_|with_reducible intro Q' hQ'|(refine GC ?_ ?_<;>intro hc)|simp only [laq])
 exact RA1
theorem u64_nn (n:Int):IntKind.u64.wrap n=((IntKind.u64.wrap n).toNat:Int):=by
 have:0<=IntKind.u64.wrap n:=by simp [IntKind.wrap,IntKind.bits,IntKind.signed];omega
 omega
def intS (n:Int):List UInt8:=putS (IntKind.u64.wrap n).toNat 8
theorem wint_ac (st:Bool×List UInt8) (n:Int) (hst:st.2.length<=65536) :
 AC prog 123 [.bp 0 0 0,I n] [wB st] (fun v bs'=>v=.bp 0 0 0/\bs'=[wB (addS st (intS n))]):=by
 have h:=put64_ac (IntKind.u64.wrap n).toNat;rw [←u64_nn] at h;have h2:=add_ac st [intS n] hst (by simp) (by simp [intS,putS_length]);refine AC.E func123 ntmps123 ?_;intros
 repeat' (first|((first|refine wA4 ?_|refine aC1 h ?_|refine aC2 h2 ?_)<;>try refine NX ?_)|refine wT2 ?_|with_reducible intro Q' hQ'|(refine GC ?_ ?_<;>intro hc)|simp only [laq])
 exact RA1
theorem put32_ac (x:Nat) (hx:x < 4294967296) :
 AF 181 [.sc (.int .u32 (x:Int))] (bs none (putS x 4)):=by
 have h:=(put_ac x 4 (by omega)).ro (r2:=bs none (putS x 4)) (by simp [AV.ro,ro_B]);have hw:IntKind.u64.wrap (x:Int)=(x:Int):=by simp [IntKind.wrap,IntKind.bits,IntKind.signed];omega
 rw [←hw] at h;refine AC.E func181 ntmps181 ?_;intros
 repeat' (first|((first|refine wA2 ?_|refine aC1 h ?_)<;>try refine NX ?_)|refine wT2 ?_|with_reducible intro Q' hQ'|(refine GC ?_ ?_<;>intro hc)|simp only [laq])
 (refine RB1 ?_;(exact ⟨rfl,rfl⟩))
theorem wbytes_ac (st:Bool×List UInt8) (b:List UInt8) (hst:st.2.length<=65536) (hb:b.length<=100000000) :
 AC prog 121 [.bp 0 0 0,bs none b] [wB st] (fun v bs'=>v=.bp 0 0 0/\bs'=[wB (addS (addS st (putS b.length 4)) b)]):=by
 have hw:IntKind.u32.wrap (b.length:Int)=(b.length:Int):=by simp [IntKind.wrap,IntKind.bits,IntKind.signed];omega
 have h:=put32_ac b.length (by omega);rw [←hw] at h;have h2:=add_ac st [putS b.length 4,b] hst (by simp) (by simp [putS_length];omega);refine AC.E func121 ntmps121 ?_;intros
 repeat' (first|((first|refine wA4 ?_|refine aC1 h ?_|refine aC2 h2 ?_)<;>try refine NX ?_)|refine wT2 ?_|with_reducible intro Q' hQ'|(refine GC ?_ ?_<;>intro hc)|simp only [laq])
 exact RA1
theorem wnew_ac:AC prog 119 [] [] (fun v bs'=>v=.bp 0 0 0/\bs'=[wB (false,[])]):=by
 refine AC.E func119 ntmps119 ?_;intros
 repeat' (first|((first|refine wA2 ?_)<;>try refine NX ?_)|refine wT2 ?_|with_reducible intro Q' hQ'|(refine GC ?_ ?_<;>intro hc)|simp only [laq])
 (exact RetQ.A [(0,1)] (by exact ⟨rfl,rfl⟩))
abbrev wD (st:Bool×List UInt8):Bx:=.c tW [B true,B st.1,bs none st.2]
theorem wdone_ac (st:Bool×List UInt8) (hst:st.2.length<=65536) :
 AC prog 124 [.bp 0 0 0] [wB st] (fun v bs'=>v=.tu [bs none (if st.1 then [] else st.2),I (if st.1 then 3 else 0)]/\bs'=[wD st]):=by
 obtain ⟨lg,acc⟩:=st;have h:=(wcat_ac [acc] (by simp) (by simp at hst ⊢;omega)).ro (r2:=bs none acc) (by simp [AV.ro,ro_B])
 cases lg with
 | true=>
  refine AC.E func124 ntmps124 ?_;intros;refine CP.gh (gh_fz (b:=1) (u:=1) rfl rfl (by (repeat' (first|exact FzC.nil|apply FzC.cons|exact FzV.hd|apply FzV.ag|exact FzV.same))) (by (repeat' (first|exact FzB.nil|apply FzB.c|apply FzB.same|exact FzC.nil|apply FzC.cons|exact FzV.hd|apply FzV.ag|exact FzV.same)))) ?_;simp only [ro_B]
  repeat' (first|((first|refine wA3 ?_|(refine GA ?_ ?_<;>intro hg)|(refine GV ?_;intros;simp only [nz]))<;>try refine NX ?_)|refine wT2 ?_|with_reducible intro Q' hQ'|(refine GC ?_ ?_<;>intro hc)|simp only [laq])
  exact RA1
 | false=>
  refine AC.E func124 ntmps124 ?_;intros;refine CP.gh (gh_fz (b:=1) (u:=1) rfl rfl (by (repeat' (first|exact FzC.nil|apply FzC.cons|exact FzV.hd|apply FzV.ag|exact FzV.same))) (by (repeat' (first|exact FzB.nil|apply FzB.c|apply FzB.same|exact FzC.nil|apply FzC.cons|exact FzV.hd|apply FzV.ag|exact FzV.same)))) ?_;simp only [ro_B]
  repeat' (first|((first|refine wA3 ?_|(refine GA ?_ ?_<;>intro hg)|(refine GV ?_;intros;simp only [nz])|refine aC1 h ?_|((with_reducible apply AP.k_any);refine AP.gh (gh_fz (b:=1) (u:=2) rfl rfl (by (repeat' (first|exact FzC.nil|apply FzC.cons|exact FzV.hd|apply FzV.ag|exact FzV.same))) (by (repeat' (first|exact FzB.nil|apply FzB.c|apply FzB.same|exact FzC.nil|apply FzC.cons|exact FzV.hd|apply FzV.ag|exact FzV.same)))) ?_;first|simp only [roE,roC,AV.ro,ro_B,ro_M,ro_E]|simp only [roE,roC,AV.ro,ro_B]))<;>try refine NX ?_)|refine wT2 ?_|with_reducible intro Q' hQ'|(refine GC ?_ ?_<;>intro hc)|simp only [laq])
  exact RA1
theorem wA5 {G G':Prop} (K:G') (h:G'->G:=by (intro kz;(with_reducible apply AP.k_any);exact AP.SS kz)):G:=h K
theorem wA6 {G G':Prop} (K:G') (h:G'->G:=by (intro kz;(with_reducible apply AP.k_any);exact AP.PF kz)):G:=h K
theorem NQ {G G':Prop} (K:G') (h:G'->G:=by (intro k;simp only [nq,Nat.reduceBEq,Nat.reduceAdd,Nat.reduceSub];exact k)):G:=h K
theorem wT3 {G G':Prop} (K:G') (h:G'->G:=by (intro kz;first|exact CP.TL kz|((with_reducible apply CP.k_reg);exact cp_regG kz))):G:=h K
theorem wtext_ac (st:Bool×List UInt8) (t:List UInt8) (hst:st.2.length<=65536) (ht:t.length<=1000000) :
 AC prog 122 [.bp 0 0 0,.sc (str t)] [wB st] (fun v bs'=>v=.bp 0 0 0/\bs'=[wB (addS (addS st (putS t.length 4)) t)]):=by
 have h1:=wbytes_ac st t hst (by omega);have hn:(⟨t.toArray⟩:ByteArray).size<=1000000:=by show t.toArray.size<=_;simpa using ht
 refine AC.E func122 ntmps122 ?_;intros;refine CP.gh gh_slot ?_;refine NX ?_
 repeat' (first|((first|refine wA1 ?_|(refine GA ?_ ?_<;>intro hg)|(refine GV ?_;intros;simp only [nz])|refine wA5 ?_|refine wA6 ?_)<;>try refine NQ ?_)|refine wT3 ?_|with_reducible intro Q' hQ'|(refine GC ?_ ?_<;>intro hc)|simp only [laq])
 exact RA1
def beN (l:List UInt8):Nat:=l.foldl (fun x c=>256 * x + c.toNat) 0
theorem beN_snoc (l:List UInt8) (c:UInt8):beN (l ++ [c])=256 * beN l + c.toNat:=by simp [beN,List.foldl_append]
theorem beN_lt (l:List UInt8):beN l < 256 ^ l.length:=by
 have h:∀ (l:List UInt8) (x:Nat),l.foldl (fun x c=>256 * x + c.toNat) x + 1<=(x + 1) * 256 ^ l.length:=by
  intro l
  induction l with
  | nil=>intro x;simp
  | cons c l ih=>
   intro x;refine Nat.le_trans (ih _) ?_;rw [List.length_cons,Nat.pow_succ',←Nat.mul_assoc];refine Nat.mul_le_mul_right _ ?_;have:=c.toNat_lt
   show 256 * x + c.toNat + 1<=_
   omega
 have:=h l 0;simp only [beN];omega
def loadS (b:List UInt8) (p:Int) (n:Nat):Nat×Bool:=if p < 0\/(b.length:Int) - n < p then (0,false) else (beN ((b.drop p.toNat).take n),true)
theorem or8 (x c:Nat) (hx:x < 2 ^ 56) (hc:c < 256):IntKind.u64.wrap (BitVec.toNat (BitVec.ofInt 64 (IntKind.u64.wrap ((x:Int) * 2 ^ 8)) ||| BitVec.ofInt 64 (IntKind.u64.wrap (c:Int))))=((256 * x + c:Nat):Int):=by
 have e1:IntKind.u64.wrap ((x:Int) * 2 ^ 8)=((x * 256:Nat):Int):=by simp [IntKind.wrap,IntKind.bits,IntKind.signed];omega
 have e2:IntKind.u64.wrap (c:Int)=(c:Int):=by simp [IntKind.wrap,IntKind.bits,IntKind.signed];omega
 rw [e1,e2,BitVec.ofInt_natCast,BitVec.ofInt_natCast,BitVec.toNat_or,BitVec.toNat_ofNat,BitVec.toNat_ofNat,Nat.mod_eq_of_lt (by omega),Nat.mod_eq_of_lt (by omega)]
 have e3:x * 256 ||| c=256 * x + c:=by
  have:=Nat.shiftLeft_add_eq_or_of_lt (i:=8) (b:=c) hc x;rw [Nat.shiftLeft_eq,show (2:Nat) ^ 8=256 from rfl] at this;omega
 rw [e3];simp [IntKind.wrap,IntKind.bits,IntKind.signed];omega
theorem or8' (x c:Nat) (hx:x < 2 ^ 56) (hc:c < 256):IntKind.u64.wrap (BitVec.toNat (BitVec.ofInt IntKind.u64.bits (IntKind.u64.wrap ((x:Int) * 2 ^ min (Int.toNat 8) IntKind.u64.bits)) ||| BitVec.ofInt IntKind.u64.bits (IntKind.u64.wrap (c:Int))))=((256 * x + c:Nat):Int):=or8 x c hx hc
theorem load_ac (b:List UInt8) (p:Int) (n:Nat) (hn:n<=8) (hb:b.length<=100000000) (hp:p<=200000000) (hp2:-1000000<=p) :
 AF 134 [bs none b,I p,I n] (.tu [.sc (.int .u64 ((loadS b p n).1:Int)),B (loadS b p n).2]):=by
 have hw0:IntKind.i64.wrap ((b.length:Int) - n)=(b.length:Int) - n:=wrap_i64 (by omega) (by omega);have hw1:IntKind.i64.wrap (p + n)=p + n:=wrap_i64 (by omega) (by omega)
 by_cases hs:p < 0\/(b.length:Int) - n < p
 ·have e0:loadS b p n=(0,false):=by simp [loadS,hs]
  rw [e0];refine AC.E func134 ntmps134 ?_;intros
  repeat' (first|((first|refine wA3 ?_|((with_reducible apply AP.k_any);first|refine AP.E ?_)|(refine GA ?_ ?_<;>intro hg))<;>try refine NX ?_)|refine wT2 ?_|with_reducible intro Q' hQ'|(refine GC ?_ ?_<;>intro hc)|simp only [laq])
  all_goals first
   | (refine RB1 ?_;(exact ⟨rfl,rfl⟩))
   | (exfalso;simp [hw0] at *;omega)
 ·have e0:loadS b p n=(beN ((b.drop p.toNat).take n),true):=by simp [loadS,hs]
  rw [e0];obtain ⟨q,rfl⟩:∃ q:Nat,p=q:=⟨p.toNat,by omega⟩;have g1:(q:Int)<=IntKind.i64.wrap ((q:Int) + n):=by rw [hw1];omega
  have g2:IntKind.i64.wrap ((q:Int) + n)<=((b.map eB).length:Int):=by rw [hw1];simp;omega
  have e2:(b.drop q).take (((q:Int) + n).toNat - q)=(b.drop q).take n:=by rw [show ((q:Int) + n).toNat - q=n by omega]
  have hl:((b.drop q).take n).length=n:=by (rw [List.length_take,List.length_drop];omega)
  refine AC.E func134 ntmps134 ?_;intros
  repeat' (first|((first|refine wA3 ?_|((with_reducible apply AP.k_any);first|refine AP.E ?_)|(refine GA ?_ ?_<;>intro hg))<;>try refine NX ?_)|refine wT2 ?_|with_reducible intro Q' hQ'|(refine GC ?_ ?_<;>intro hc)|simp only [laq])
  all_goals first
   | (exfalso;simp [hw0] at *;omega)
   | skip
  ·simp only [hw1,Int.toNat_natCast,e2];generalize (b.drop q).take n=c at hl e2 ⊢;refine cp_loopS [8,10,28,29,30,31,32,33,34,35,36,37] (fun k:Nat=>c.length - k) (fun k=>k<=c.length) (fun k=>[(28,I k),(8,.sc (.int .u64 (beN (c.take k):Int)))]) (fun _=>[]) 0 (Nat.zero_le _) (by exact Gh.W) ?_;rintro k hk;refine ST0 ?_
   by_cases hlt:k < c.length
   ·have hw:IntKind.i64.wrap ((k:Int) + 1)=((k + 1:Nat):Int):=wrap_i64 (by omega) (by omega);have hb1:=beN_lt (c.take k);have hb2:256 ^ (c.take k).length<=256 ^ 7:=Nat.pow_le_pow_right (by omega) (by simp;omega);have ho:=or8' (beN (c.take k)) c[k].toNat (by omega) c[k].toNat_lt;have hsn:beN (c.take (k + 1))=256 * beN (c.take k) + c[k].toNat:=by rw [List.take_succ_eq_append_getElem hlt,beN_snoc]
    repeat' (first|((first|refine wA3 ?_|((with_reducible apply AP.k_any);first|refine AP.E ?_)|(refine GA ?_ ?_<;>intro hg))<;>try refine NX ?_)|refine wT2 ?_|with_reducible intro Q' hQ'|(refine GC ?_ ?_<;>intro hc)|simp only [laq])
    ·simp only [hw];refine ⟨k + 1,by omega,by omega,?_⟩;rw [hsn,←ho];exact Gh.W
    ·exfalso;simp at *;omega
   ·obtain rfl:k=c.length:=by omega
    rw [List.take_length]
    repeat' (first|((first|refine wA3 ?_|((with_reducible apply AP.k_any);first|refine AP.E ?_)|(refine GA ?_ ?_<;>intro hg))<;>try refine NX ?_)|refine wT2 ?_|with_reducible intro Q' hQ'|(refine GC ?_ ?_<;>intro hc)|simp only [laq])
    all_goals first
     | (exfalso;simp at *;done)
     | (exfalso;simp at *;omega)
     | (refine RB1 ?_;(exact ⟨rfl,rfl⟩))
