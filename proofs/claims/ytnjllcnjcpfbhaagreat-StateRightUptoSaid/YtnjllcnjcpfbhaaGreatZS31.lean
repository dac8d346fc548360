/- Parts. -/
import Derived.Test.YtnjllcnjcpfbhaaGreatZS29
namespace Go.Proofs.YtnjllcnjcpfbhaaGreat
set_option linter.unusedVariables false
set_option linter.unusedSimpArgs false
open Go.RowKit Go.Proofs.Tryz
set_option maxRecDepth 100000
set_option maxHeartbeats 8000000
theorem wN16 {G G':Prop} (K:G') (h:G'->G:=by (intro kz;simp only [hw,q1,q2',nq,Nat.reduceBEq,Nat.reduceAdd,Nat.reduceSub];exact kz)):G:=h K
theorem wN8 {G G':Prop} (K:G') (h:G'->G:=by (intro kz;simp only [w0,q1,q2',nq,Nat.reduceBEq,Nat.reduceAdd,Nat.reduceSub];exact kz)):G:=h K
abbrev zfn:AV:=.sc .nilFunc
abbrev fnA0 (f:Nat):AV:=.fn f []
abbrev rqSh:List AV:=[zfn,zfn,fnA0 136,fnA0 141,fnA0 135,fnA0 142,.fn 143 [.bp 0 0 0],fnA0 144,fnA0 136,fnA0 141,fnA0 145,fnA0 146,fnA0 137,fnA0 140,fnA0 137,fnA0 140,fnA0 147,fnA0 149,fnA0 150,fnA0 151,fnA0 152,fnA0 153]
abbrev rqShC (c:AV):List AV:=[zfn,zfn,fnA0 136,fnA0 141,fnA0 135,fnA0 142,.fn 143 [c],fnA0 144,fnA0 136,fnA0 141,fnA0 145,fnA0 146,fnA0 137,fnA0 140,fnA0 137,fnA0 140,fnA0 147,fnA0 149,fnA0 150,fnA0 151,fnA0 152,fnA0 153]
theorem shapes_ac:AC prog 85 [] [] (fun v bs'=>v=.ag rqSh/\bs'=[vvB]):=by
 refine AC.E func85 ntmps85 ?_;intros
 repeat' (first|((first|refine wA1 ?_|(refine GA ?_ ?_<;>intro hg)|(refine GV ?_;intros;simp only [nz])|refine wA6 ?_)<;>try refine NQ ?_)|refine wT3 ?_|with_reducible intro Q' hQ'|(refine GC ?_ ?_<;>intro hc)|simp only [laq])
 exact RetQ.A [(1,1)] (by exact ⟨rfl,rfl⟩) (hc:=by exact ClsR.one ClsV.id)
def bareR (r:Req):Bool:=decide (r.key=[]) && decide (r.val=[]) && decide (r.old=[]) && (r.n == 0) && (r.ten == 0) && (r.keys == 0) && (r.spc == 0) && (r.g.rts == 0 && r.g.exp == 0 && r.g.ser == 0)
theorem bare_ac (r:Req):AF 86 [.ag (eRq r)] (B (bareR r)):=by
 have qE:eqVs [.int .u8 (r.g.rts.toNat:Int),.int .i64 r.g.exp,.int .i64 r.g.ser] [.int .u8 0,.int .i64 0,.int .i64 0]=(r.g.rts == 0 && r.g.exp == 0 && r.g.ser == 0):=by
  rw [Bool.eq_iff_iff];simp [eqVs,eqV1,←UInt8.toNat_inj,and_assoc]
 refine AC.E func86 ntmps86 ?_;intros;refine CP.SL ?_
 repeat' (first|((first|refine wA1 ?_|(refine GA ?_ ?_<;>intro hg)|(refine GV ?_;intros;simp only [nz])|refine wA12 ?_|refine wA6 ?_)<;>(try simp only [qE,nq,Nat.reduceBEq,Nat.reduceAdd,Nat.reduceSub]))|refine wT3 ?_|with_reducible intro Q' hQ'|(refine GC ?_ ?_<;>intro hc)|simp only [laq])
 all_goals (refine RB1 ?_;((refine ⟨congrArg B ?_,rfl⟩;(repeat (rename AC _ _ _ _ _=>hzz;clear hzz));simp_all [bareR])))
def shpR (r:Req):Bool×Req:=match r.op.toNat with
 | 1=>(keyR r,{ r with key:=[] })
 | 2=>(valR r,{ r with key:=[],val:=[] })
 | 3=>(swpR r,{ r with key:=[],val:=[],old:=[] })
 | 4=>(keyR r,{ r with key:=[] })
 | 5=>(lstR r,{ r with key:=[],n:=0 })
 | 6=>(roomR r,{ r with ten:=0,keys:=0,spc:=0 })
 | 7=>(roomR r,{ r with ten:=0,keys:=0,spc:=0 })
 | 8=>(gntR r,{ r with ten:=0,g:=⟨0,0,0⟩ })
 | 9=>(rvkR r,{ r with ten:=0,n:=0 })
 | 10=>(winS r.n 0 65536,{ r with n:=0 })
 | _=>(false,r)
def mayReq (r:Req):Bool:=decide (r.op.toNat<=10) && decide (r.tok.length<=256) && ((shpR r).1 && bareR (shpR r).2)
theorem rqG {r r2:Req} {f l:Nat} {x y:Bool} (q1:decide ((11:Int)<=(r.op.toNat:Int))=false) (q2':decide ((256:Int) < (r.tok.length:Int))=false)
 (hidx:∀ c,((rqShC c).drop ((r.op.toNat:Int).toNat * 2)).take 2=[.fn f [],.fn l []])
 (hf:AF f [.ag (eRq r)] (B x))
 (hl:AC prog l [.bp 0 0 0] [.c tRq (eRq r)] (fun v bs'=>v=.tu []/\bs'=[.c tRq (eRq r2)]))
 (hb:AF 86 [.ag (eRq r2)] (B y)) :
 AF 39 [.ag (eRq r)] (B (x && y)):=by
 have h0:=shapes_ac;have hw:=u8_i64 r.op;have hop:0<=(r.op.toNat:Int)/\(r.op.toNat:Int) < ((11:Nat):Int):=⟨Int.natCast_nonneg _,by have:=of_decide_eq_false q1;omega⟩
 cases x with
 | false => refine AC.N func39 ntmps39 ?_
            intro X hρ hmks;refine NX ?_;iterate 4 refine CP.SL ?_
            repeat' (first|((first|refine wA1 ?_|(refine GA ?_ ?_<;>intro hg)|(refine GV ?_;intros;simp only [nz])|refine wA6 ?_)<;>try refine wN16 ?_)|refine wT8 ?_|with_reducible intro Q' hQ'|(refine GC ?_ ?_<;>intro hc)|simp only [laq])
            first|refine cp_drwX fun Q' hQ'=>?_|refine cp_drawX ?_
            repeat' (first|((first|refine wA1 ?_|(refine GA ?_ ?_<;>intro hg)|(refine GV ?_;intros;simp only [nz])|refine wA6 ?_|refine wD1 ?_)<;>try refine wN16 ?_)|refine wT8 ?_|with_reducible intro Q' hQ'|(refine GC ?_ ?_<;>intro hc)|simp only [laq])
            repeat' (first|((first|refine wA1 ?_|(refine GA ?_ ?_<;>intro hg)|(refine GV ?_;intros;simp only [nz])|refine wA6 ?_)<;>try refine wN16 ?_)|refine wT8 ?_|with_reducible intro Q' hQ'|(refine GC ?_ ?_<;>intro hc)|simp only [laq])
            first|refine cp_drwX fun Q' hQ'=>?_|refine cp_drawX ?_
            refine DW.A 1 ?_;refine NQ ?_;iterate 2 refine DS0 ?_
            refine DW.IA ?_ (h:=by (intro X V;simp only [ft,nm,Nat.reduceAdd,Nat.reduceBEq];(try (refine AP.Y ?_;dsimp only));refine AP.IA (hl:=hidx _) (hp:=hop) ?_;(try refine NX ?_);refine AP.nil ?_;first|exact ⟨trivial,rfl⟩|exact ⟨rfl,rfl⟩));refine NQ ?_;iterate 2 refine DS0 ?_
            repeat' (first|((first|((with_reducible apply AP.k_any);refine AP.FC ?_)|refine aC1 hf ?_|refine wA1 ?_|(refine GA ?_ ?_<;>intro hg)|(refine GV ?_;intros;simp only [nz])|refine wA6 ?_|refine wD4 ?_|((with_reducible apply DW.k_any);refine DW.known rfl ?_;(with_reducible first|apply DW.sx 2);(iterate 2 (focus (simp only [ft,nm,Nat.reduceAdd,Nat.reduceBEq,List.getElem?_cons_zero,List.getElem?_cons_succ];exact rfl)));(focus (intro X V;simp only [ft,nm,Nat.reduceAdd,Nat.reduceBEq];(try (refine AP.Y ?_;dsimp only));(first|((with_reducible apply AP.k_any);refine AP.FC ?_)|((with_reducible apply AP.k_any);refine AP.C (hf) ?_)|fail);(try refine NX ?_);refine AP.nil ?_;(first|refine ⟨trivial,rfl,?_⟩|refine ⟨rfl,rfl,?_⟩);(repeat' (first|exact Mg.nil|apply Mg.keep rfl|apply Mg.take rfl));done));(focus (refine Exists.intro (fun _=>0) ?_;apply Exists.intro;(repeat' (first|exact Mg.nil|apply Mg.keep rfl|apply Mg.take rfl));done));(iterate 2 (focus (exact rfl)))))<;>try refine NQ ?_)|refine wT6 ?_|with_reducible intro Q' hQ'|(refine GC ?_ ?_<;>intro hc)|simp only [laq])
            exact RA0
 | true => refine AC.N func39 ntmps39 ?_
           intro X hρ hmks;refine NX ?_;iterate 4 refine CP.SL ?_
           repeat' (first|((first|refine wA1 ?_|(refine GA ?_ ?_<;>intro hg)|(refine GV ?_;intros;simp only [nz])|refine wA6 ?_)<;>try refine wN16 ?_)|refine wT8 ?_|with_reducible intro Q' hQ'|(refine GC ?_ ?_<;>intro hc)|simp only [laq])
           first|refine cp_drwX fun Q' hQ'=>?_|refine cp_drawX ?_
           repeat' (first|((first|refine wA1 ?_|(refine GA ?_ ?_<;>intro hg)|(refine GV ?_;intros;simp only [nz])|refine wA6 ?_|refine wD1 ?_)<;>try refine wN16 ?_)|refine wT8 ?_|with_reducible intro Q' hQ'|(refine GC ?_ ?_<;>intro hc)|simp only [laq])
           repeat' (first|((first|refine wA1 ?_|(refine GA ?_ ?_<;>intro hg)|(refine GV ?_;intros;simp only [nz])|refine wA6 ?_)<;>try refine wN16 ?_)|refine wT8 ?_|with_reducible intro Q' hQ'|(refine GC ?_ ?_<;>intro hc)|simp only [laq])
           first|refine cp_drwX fun Q' hQ'=>?_|refine cp_drawX ?_
           refine DW.A 1 ?_;refine NQ ?_;iterate 2 refine DS0 ?_
           refine DW.IA ?_ (h:=by (intro X V;simp only [ft,nm,Nat.reduceAdd,Nat.reduceBEq];(try (refine AP.Y ?_;dsimp only));refine AP.IA (hl:=hidx _) (hp:=hop) ?_;(try refine NX ?_);refine AP.nil ?_;first|exact ⟨trivial,rfl⟩|exact ⟨rfl,rfl⟩));refine NQ ?_;iterate 2 refine DS0 ?_
           repeat' (first|((first|((with_reducible apply AP.k_any);refine AP.FC ?_)|refine aC1 hf ?_|refine aC4 hl ?_|refine aC1 hb ?_|refine wA1 ?_|(refine GA ?_ ?_<;>intro hg)|(refine GV ?_;intros;simp only [nz])|refine wA6 ?_|refine wD4 ?_|((with_reducible apply DW.k_any);refine DW.known rfl ?_;(with_reducible first|apply DW.sx 2);(iterate 2 (focus (simp only [ft,nm,Nat.reduceAdd,Nat.reduceBEq,List.getElem?_cons_zero,List.getElem?_cons_succ];exact rfl)));(focus (intro X V;simp only [ft,nm,Nat.reduceAdd,Nat.reduceBEq];(try (refine AP.Y ?_;dsimp only));(first|((with_reducible apply AP.k_any);refine AP.FC ?_)|((with_reducible apply AP.k_any);refine AP.C (hf) ?_)|((with_reducible apply AP.k_any);refine AP.B 0 (hl) ?_)|((with_reducible apply AP.k_any);refine AP.C (hb) ?_)|fail);(try refine NX ?_);refine AP.nil ?_;(first|refine ⟨trivial,rfl,?_⟩|refine ⟨rfl,rfl,?_⟩);(repeat' (first|exact Mg.nil|apply Mg.keep rfl|apply Mg.take rfl));done));(focus (refine Exists.intro (fun _=>0) ?_;apply Exists.intro;(repeat' (first|exact Mg.nil|apply Mg.keep rfl|apply Mg.take rfl));done));(iterate 2 (focus (exact rfl)))))<;>try refine NQ ?_)|refine wT6 ?_|with_reducible intro Q' hQ'|(refine GC ?_ ?_<;>intro hc)|simp only [laq])
           exact RA0
theorem rqmay_ac (r:Req) (hr:r.small):AF 39 [.ag (eRq r)] (B (mayReq r)):=by
 have h0:=shapes_ac;have hw:=u8_i64 r.op;unfold mayReq
 cases q1:decide (r.op.toNat<=10) with
 | false=>
  have q1':decide ((11:Int)<=(r.op.toNat:Int))=true:=decide_eq_true (by have:=of_decide_eq_false q1;omega);refine AC.E func39 ntmps39 ?_;intro X hρ hmks;iterate 2 refine CP.SL ?_
  repeat' (first|((first|refine wA1 ?_|(refine GA ?_ ?_<;>intro hg)|(refine GV ?_;intros;simp only [nz])|refine wA6 ?_|refine wD1 ?_)<;>(try simp only [hw,q1',nq,Nat.reduceBEq,Nat.reduceAdd,Nat.reduceSub]))|refine wT6 ?_|with_reducible intro Q' hQ'|(refine GC ?_ ?_<;>intro hc)|simp only [laq])
  exact RA0
 | true=>
 have q1':decide ((11:Int)<=(r.op.toNat:Int))=false:=decide_eq_false (by have:=of_decide_eq_true q1;omega)
 cases q2:decide (r.tok.length<=256) with
 | false=>
  have q2':decide ((256:Int) < (r.tok.length:Int))=true:=decide_eq_true (by have:=of_decide_eq_false q2;omega);refine AC.E func39 ntmps39 ?_;intro X hρ hmks;iterate 2 refine CP.SL ?_
  repeat' (first|((first|refine wA1 ?_|(refine GA ?_ ?_<;>intro hg)|(refine GV ?_;intros;simp only [nz])|refine wA6 ?_|refine wD1 ?_)<;>(try simp only [hw,q1',q2',nq,Nat.reduceBEq,Nat.reduceAdd,Nat.reduceSub]))|refine wT6 ?_|with_reducible intro Q' hQ'|(refine GC ?_ ?_<;>intro hc)|simp only [laq])
  exact RA0
 | true=>
 have q2':decide ((256:Int) < (r.tok.length:Int))=false:=decide_eq_false (by have:=of_decide_eq_true q2;omega);clear q2
 have ho:r.op.toNat=0\/r.op.toNat=1\/r.op.toNat=2\/r.op.toNat=3\/r.op.toNat=4\/r.op.toNat=5\/r.op.toNat=6\/r.op.toNat=7\/r.op.toNat=8\/r.op.toNat=9\/r.op.toNat=10:=by
  have:=of_decide_eq_true q1;omega
 clear q1;have hb:=bare_ac (shpR r).2;obtain ⟨op,tok,key,val,old,n,ten,keys,spc,g⟩:=r;rcases ho with ho|ho|ho|ho|ho|ho|ho|ho|ho|ho|ho
 ·obtain rfl:op=0:=UInt8.toNat_inj.1 ho;have q1:decide ((11:Int)<=0)=false:=rfl;have w0:IntKind.i64.wrap ((UInt8.toNat 0:Nat):Int)=0:=rfl;clear q1' hw ho
  change AC _ _ _ _ (fun v bs'=>v=B (true && true && (false && bareR _))/\_)
  refine AC.E func39 ntmps39 ?_;intro X hρ hmks;iterate 4 refine CP.SL ?_
  repeat' (first|((first|refine wA1 ?_|(refine GA ?_ ?_<;>intro hg)|(refine GV ?_;intros;simp only [nz])|refine wA6 ?_)<;>try refine wN8 ?_)|refine wT8 ?_|with_reducible intro Q' hQ'|(refine GC ?_ ?_<;>intro hc)|simp only [laq])
  first|refine cp_drwX fun Q' hQ'=>?_|refine cp_drawX ?_
  repeat' (first|((first|refine wA1 ?_|(refine GA ?_ ?_<;>intro hg)|(refine GV ?_;intros;simp only [nz])|refine wA6 ?_|refine wD1 ?_)<;>try refine wN8 ?_)|refine wT8 ?_|with_reducible intro Q' hQ'|(refine GC ?_ ?_<;>intro hc)|simp only [laq])
  repeat' (first|((first|refine wA1 ?_|(refine GA ?_ ?_<;>intro hg)|(refine GV ?_;intros;simp only [nz])|refine wA6 ?_)<;>try refine wN8 ?_)|refine wT8 ?_|with_reducible intro Q' hQ'|(refine GC ?_ ?_<;>intro hc)|simp only [laq])
  first|refine cp_drwX fun Q' hQ'=>?_|refine cp_drawX ?_
  refine DW.A 1 ?_;refine NQ ?_;iterate 2 refine DS0 ?_
  refine DW.IA ?_;refine NQ ?_;iterate 2 refine DS0 ?_
  repeat' (first|((first|((with_reducible apply AP.k_any);refine AP.FC ?_)|refine wA1 ?_|(refine GA ?_ ?_<;>intro hg)|(refine GV ?_;intros;simp only [nz])|refine wA6 ?_|refine wD4 ?_|((with_reducible apply DW.k_any);refine DW.known rfl ?_;(with_reducible first|apply DW.sx 2);(iterate 2 (focus (simp only [ft,nm,Nat.reduceAdd,Nat.reduceBEq,List.getElem?_cons_zero,List.getElem?_cons_succ];exact rfl)));(focus (intro X V;simp only [ft,nm,Nat.reduceAdd,Nat.reduceBEq];(try (refine AP.Y ?_;dsimp only));(first|((with_reducible apply AP.k_any);refine AP.FC ?_)|fail);(try refine NX ?_);refine AP.nil ?_;(first|refine ⟨trivial,rfl,?_⟩|refine ⟨rfl,rfl,?_⟩);(repeat' (first|exact Mg.nil|apply Mg.keep rfl|apply Mg.take rfl));done));(focus (refine Exists.intro (fun _=>0) ?_;apply Exists.intro;(repeat' (first|exact Mg.nil|apply Mg.keep rfl|apply Mg.take rfl));done));(iterate 2 (focus (exact rfl)))))<;>try refine NQ ?_)|refine wT6 ?_|with_reducible intro Q' hQ'|(refine GC ?_ ?_<;>intro hc)|simp only [laq])
  exact RA0
 ·obtain rfl:op=1:=UInt8.toNat_inj.1 ho;have q1:decide ((11:Int)<=1)=false:=rfl;have w0:IntKind.i64.wrap ((UInt8.toNat 1:Nat):Int)=1:=rfl;clear q1' hw ho;have e:=rqG rfl q2' (fun _=>rfl) (rkey_ac _ hr) (sh4_ac (⟨1,tok,key,val,old,n,ten,keys,spc,g⟩:Req)) hb;exact e
 ·obtain rfl:op=2:=UInt8.toNat_inj.1 ho;have q1:decide ((11:Int)<=2)=false:=rfl;have w0:IntKind.i64.wrap ((UInt8.toNat 2:Nat):Int)=2:=rfl;clear q1' hw ho;have e:=rqG rfl q2' (fun _=>rfl) (sh1_ac _ hr) (sh5_ac (⟨2,tok,key,val,old,n,ten,keys,spc,g⟩:Req)) hb;exact e
 ·obtain rfl:op=3:=UInt8.toNat_inj.1 ho;have q1:decide ((11:Int)<=3)=false:=rfl;have w0:IntKind.i64.wrap ((UInt8.toNat 3:Nat):Int)=3:=rfl;clear q1' hw ho;have hf:=sh6_ac _ hr;have hl:=sh7_ac (⟨3,tok,key,val,old,n,ten,keys,spc,g⟩:Req)
  change AC _ _ _ _ (fun v bs'=>v=B (true && true && (swpR (⟨3,tok,key,val,old,n,ten,keys,spc,g⟩:Req) && bareR _))/\_)
  generalize swpR (⟨3,tok,key,val,old,n,ten,keys,spc,g⟩:Req)=x at *;generalize bareR _=y at *
  cases x with
  | false => refine AC.N func39 ntmps39 ?_
             intro X hρ hmks;refine NX ?_;iterate 4 refine CP.SL ?_
             repeat' (first|((first|refine wA1 ?_|(refine GA ?_ ?_<;>intro hg)|(refine GV ?_;intros;simp only [nz])|refine wA6 ?_)<;>try refine wN8 ?_)|refine wT8 ?_|with_reducible intro Q' hQ'|(refine GC ?_ ?_<;>intro hc)|simp only [laq])
             first|refine cp_drwX fun Q' hQ'=>?_|refine cp_drawX ?_
             repeat' (first|((first|refine wA1 ?_|(refine GA ?_ ?_<;>intro hg)|(refine GV ?_;intros;simp only [nz])|refine wA6 ?_|refine wD1 ?_)<;>try refine wN8 ?_)|refine wT8 ?_|with_reducible intro Q' hQ'|(refine GC ?_ ?_<;>intro hc)|simp only [laq])
             repeat' (first|((first|refine wA1 ?_|(refine GA ?_ ?_<;>intro hg)|(refine GV ?_;intros;simp only [nz])|refine wA6 ?_)<;>try refine wN8 ?_)|refine wT8 ?_|with_reducible intro Q' hQ'|(refine GC ?_ ?_<;>intro hc)|simp only [laq])
             first|refine cp_drwX fun Q' hQ'=>?_|refine cp_drawX ?_
             refine DW.A 1 ?_;refine NQ ?_;iterate 2 refine DS0 ?_
             refine DW.IA ?_;refine NQ ?_;iterate 2 refine DS0 ?_
             repeat' (first|((first|((with_reducible apply AP.k_any);refine AP.FC ?_)|refine aC4 hf ?_|refine wA1 ?_|(refine GA ?_ ?_<;>intro hg)|(refine GV ?_;intros;simp only [nz])|refine wA6 ?_|refine wD4 ?_|((with_reducible apply DW.k_any);refine DW.known rfl ?_;(with_reducible first|apply DW.sx 2);(iterate 2 (focus (simp only [ft,nm,Nat.reduceAdd,Nat.reduceBEq,List.getElem?_cons_zero,List.getElem?_cons_succ];exact rfl)));(focus (intro X V;simp only [ft,nm,Nat.reduceAdd,Nat.reduceBEq];(try (refine AP.Y ?_;dsimp only));(first|((with_reducible apply AP.k_any);refine AP.FC ?_)|((with_reducible apply AP.k_any);refine AP.B 0 (hf) ?_)|fail);(try refine NX ?_);refine AP.nil ?_;(first|refine ⟨trivial,rfl,?_⟩|refine ⟨rfl,rfl,?_⟩);(repeat' (first|exact Mg.nil|apply Mg.keep rfl|apply Mg.take rfl));done));(focus (refine Exists.intro (fun _=>0) ?_;apply Exists.intro;(repeat' (first|exact Mg.nil|apply Mg.keep rfl|apply Mg.take rfl));done));(iterate 2 (focus (exact rfl)))))<;>try refine NQ ?_)|refine wT6 ?_|with_reducible intro Q' hQ'|(refine GC ?_ ?_<;>intro hc)|simp only [laq])
             exact RA0
  | true => refine AC.N func39 ntmps39 ?_
            intro X hρ hmks;refine NX ?_;iterate 4 refine CP.SL ?_
            repeat' (first|((first|refine wA1 ?_|(refine GA ?_ ?_<;>intro hg)|(refine GV ?_;intros;simp only [nz])|refine wA6 ?_)<;>try refine wN8 ?_)|refine wT8 ?_|with_reducible intro Q' hQ'|(refine GC ?_ ?_<;>intro hc)|simp only [laq])
            first|refine cp_drwX fun Q' hQ'=>?_|refine cp_drawX ?_
            repeat' (first|((first|refine wA1 ?_|(refine GA ?_ ?_<;>intro hg)|(refine GV ?_;intros;simp only [nz])|refine wA6 ?_|refine wD1 ?_)<;>try refine wN8 ?_)|refine wT8 ?_|with_reducible intro Q' hQ'|(refine GC ?_ ?_<;>intro hc)|simp only [laq])
            repeat' (first|((first|refine wA1 ?_|(refine GA ?_ ?_<;>intro hg)|(refine GV ?_;intros;simp only [nz])|refine wA6 ?_)<;>try refine wN8 ?_)|refine wT8 ?_|with_reducible intro Q' hQ'|(refine GC ?_ ?_<;>intro hc)|simp only [laq])
            first|refine cp_drwX fun Q' hQ'=>?_|refine cp_drawX ?_
            refine DW.A 1 ?_;refine NQ ?_;iterate 2 refine DS0 ?_
            refine DW.IA ?_;refine NQ ?_;iterate 2 refine DS0 ?_
            repeat' (first|((first|((with_reducible apply AP.k_any);refine AP.FC ?_)|refine aC4 hf ?_|refine aC4 hl ?_|refine aC1 hb ?_|refine wA1 ?_|(refine GA ?_ ?_<;>intro hg)|(refine GV ?_;intros;simp only [nz])|refine wA6 ?_|refine wD4 ?_|((with_reducible apply DW.k_any);refine DW.known rfl ?_;(with_reducible first|apply DW.sx 2);(iterate 2 (focus (simp only [ft,nm,Nat.reduceAdd,Nat.reduceBEq,List.getElem?_cons_zero,List.getElem?_cons_succ];exact rfl)));(focus (intro X V;simp only [ft,nm,Nat.reduceAdd,Nat.reduceBEq];(try (refine AP.Y ?_;dsimp only));(first|((with_reducible apply AP.k_any);refine AP.FC ?_)|((with_reducible apply AP.k_any);refine AP.B 0 (hf) ?_)|((with_reducible apply AP.k_any);refine AP.B 0 (hl) ?_)|((with_reducible apply AP.k_any);refine AP.C (hb) ?_)|fail);(try refine NX ?_);refine AP.nil ?_;(first|refine ⟨trivial,rfl,?_⟩|refine ⟨rfl,rfl,?_⟩);(repeat' (first|exact Mg.nil|apply Mg.keep rfl|apply Mg.take rfl));done));(focus (refine Exists.intro (fun _=>0) ?_;apply Exists.intro;(repeat' (first|exact Mg.nil|apply Mg.keep rfl|apply Mg.take rfl));done));(iterate 2 (focus (exact rfl)))))<;>try refine NQ ?_)|refine wT6 ?_|with_reducible intro Q' hQ'|(refine GC ?_ ?_<;>intro hc)|simp only [laq])
            exact RA0
 ·obtain rfl:op=4:=UInt8.toNat_inj.1 ho;have q1:decide ((11:Int)<=4)=false:=rfl;have w0:IntKind.i64.wrap ((UInt8.toNat 4:Nat):Int)=4:=rfl;clear q1' hw ho;have e:=rqG rfl q2' (fun _=>rfl) (rkey_ac _ hr) (sh4_ac (⟨4,tok,key,val,old,n,ten,keys,spc,g⟩:Req)) hb;exact e
 ·obtain rfl:op=5:=UInt8.toNat_inj.1 ho;have q1:decide ((11:Int)<=5)=false:=rfl;have w0:IntKind.i64.wrap ((UInt8.toNat 5:Nat):Int)=5:=rfl;clear q1' hw ho;have e:=rqG rfl q2' (fun _=>rfl) (sh8_ac _ hr) (sh9_ac (⟨5,tok,key,val,old,n,ten,keys,spc,g⟩:Req)) hb;exact e
 ·obtain rfl:op=6:=UInt8.toNat_inj.1 ho;have q1:decide ((11:Int)<=6)=false:=rfl;have w0:IntKind.i64.wrap ((UInt8.toNat 6:Nat):Int)=6:=rfl;clear q1' hw ho;have e:=rqG rfl q2' (fun _=>rfl) (sh2_ac (⟨6,tok,key,val,old,n,ten,keys,spc,g⟩:Req)) (sh3_ac (⟨6,tok,key,val,old,n,ten,keys,spc,g⟩:Req)) hb;exact e
 ·obtain rfl:op=7:=UInt8.toNat_inj.1 ho;have q1:decide ((11:Int)<=7)=false:=rfl;have w0:IntKind.i64.wrap ((UInt8.toNat 7:Nat):Int)=7:=rfl;clear q1' hw ho;have e:=rqG rfl q2' (fun _=>rfl) (sh2_ac (⟨7,tok,key,val,old,n,ten,keys,spc,g⟩:Req)) (sh3_ac (⟨7,tok,key,val,old,n,ten,keys,spc,g⟩:Req)) hb;exact e
 ·obtain rfl:op=8:=UInt8.toNat_inj.1 ho;have q1:decide ((11:Int)<=8)=false:=rfl;have w0:IntKind.i64.wrap ((UInt8.toNat 8:Nat):Int)=8:=rfl;clear q1' hw ho;have e:=rqG rfl q2' (fun _=>rfl) (sh10_ac (⟨8,tok,key,val,old,n,ten,keys,spc,g⟩:Req)) (sh11_ac (⟨8,tok,key,val,old,n,ten,keys,spc,g⟩:Req)) hb;exact e
 ·obtain rfl:op=9:=UInt8.toNat_inj.1 ho;have q1:decide ((11:Int)<=9)=false:=rfl;have w0:IntKind.i64.wrap ((UInt8.toNat 9:Nat):Int)=9:=rfl;clear q1' hw ho;have e:=rqG rfl q2' (fun _=>rfl) (sh12_ac (⟨9,tok,key,val,old,n,ten,keys,spc,g⟩:Req)) (sh13_ac (⟨9,tok,key,val,old,n,ten,keys,spc,g⟩:Req)) hb;exact e
 ·obtain rfl:op=10:=UInt8.toNat_inj.1 ho;have q1:decide ((11:Int)<=10)=false:=rfl;have w0:IntKind.i64.wrap ((UInt8.toNat 10:Nat):Int)=10:=rfl;clear q1' hw ho;have e:=rqG rfl q2' (fun _=>rfl) (sh14_ac (⟨10,tok,key,val,old,n,ten,keys,spc,g⟩:Req)) (sh15_ac (⟨10,tok,key,val,old,n,ten,keys,spc,g⟩:Req)) hb;exact e
