/- Parts. -/
import Derived.Test.YtnjllcnjcpfbhaaGreatZS26
namespace Go.Proofs.YtnjllcnjcpfbhaaGreat
set_option linter.unusedVariables false
set_option linter.unusedSimpArgs false
open Go.RowKit Go.Proofs.Tryz
set_option maxRecDepth 100000
set_option maxHeartbeats 8000000
abbrev tRq:TypeId:=49
structure Req where
 op:UInt8
 tok:List UInt8
 key:List UInt8
 val:List UInt8
 old:List UInt8
 n:Int
 ten:Int
 keys:Int
 spc:Int
 g:Gr
abbrev eRq (r:Req):List AV:=[U r.op,bs none r.tok,S r.key,S r.val,S r.old,I r.n,I r.ten,I r.keys,I r.spc,U r.g.rts,I r.g.exp,I r.g.ser]
structure Req.small (r:Req):Prop where
 t:r.tok.length<=100000000
 k:r.key.length<=100000000
 v:r.val.length<=100000000
 o:r.old.length<=100000000
def winS (n a b:Int):Bool:=decide (a<=n) && decide (n<=b)
theorem within_ac (n a b:Int):AF 139 [I n,I a,I b] (B (winS n a b)):=by
 unfold winS
 cases q1:decide (a<=n)<;>cases q2:decide (n<=b)<;>(
  refine AC.E func139 ntmps139 ?_;intros
  repeat' (first|((first|refine wA1 ?_|(refine GA ?_ ?_<;>intro hg)|(refine GV ?_;intros;simp only [nz])|refine wA6 ?_)<;>try refine wN1 ?_)|refine wT3 ?_|with_reducible intro Q' hQ'|(refine GC ?_ ?_<;>intro hc)|simp only [laq])
  exact RA0)
def keyR (r:Req):Bool:=decide ((1:Int)<=r.key.length) && decide ((r.key.length:Int)<=24)
theorem rkey_ac (r:Req) (hr:r.small):AF 136 [.ag (eRq r)] (B (keyR r)):=by
 have hk:=hr.k;unfold keyR
 cases q1:decide ((1:Int)<=r.key.length)<;>cases q2:decide ((r.key.length:Int)<=24)<;>(
  refine AC.E func136 ntmps136 ?_;intros;refine CP.SL ?_
  repeat' (first|((first|refine wA1 ?_|(refine GA ?_ ?_<;>intro hg)|(refine GV ?_;intros;simp only [nz])|refine wA6 ?_)<;>(try simp only [bsz,q1,q2,nq,Nat.reduceBEq,Nat.reduceAdd,Nat.reduceSub]))|refine wT3 ?_|with_reducible intro Q' hQ'|(refine GC ?_ ?_<;>intro hc)|simp only [laq])
  exact RA0)
theorem rten_ac (r:Req):AF 138 [.ag (eRq r)] (B (winS r.ten 1 8)):=by
 have h:=within_ac r.ten 1 8;refine AC.E func138 ntmps138 ?_;intros;refine CP.SL ?_
 repeat' (first|((first|refine wA1 ?_|(refine GA ?_ ?_<;>intro hg)|(refine GV ?_;intros;simp only [nz])|refine wA6 ?_)<;>try refine NQ ?_)|refine wT3 ?_|with_reducible intro Q' hQ'|(refine GC ?_ ?_<;>intro hc)|simp only [laq])
 exact RA0
theorem rany2_ac (r:Req):AF 148 [.ag (eRq r)] (B (winS r.ten 0 8)):=by
 have h:=within_ac r.ten 0 8;refine AC.E func148 ntmps148 ?_;intros;refine CP.SL ?_
 repeat' (first|((first|refine wA1 ?_|(refine GA ?_ ?_<;>intro hg)|(refine GV ?_;intros;simp only [nz])|refine wA6 ?_)<;>try refine NQ ?_)|refine wT3 ?_|with_reducible intro Q' hQ'|(refine GC ?_ ?_<;>intro hc)|simp only [laq])
 exact RA0
theorem sh14_ac (r:Req):AF 152 [.ag (eRq r)] (B (winS r.n 0 65536)):=by
 have h:=within_ac r.n 0 65536;refine AC.E func152 ntmps152 ?_;intros;refine CP.SL ?_
 repeat' (first|((first|refine wA1 ?_|(refine GA ?_ ?_<;>intro hg)|(refine GV ?_;intros;simp only [nz])|refine wA6 ?_)<;>try refine NQ ?_)|refine wT3 ?_|with_reducible intro Q' hQ'|(refine GC ?_ ?_<;>intro hc)|simp only [laq])
 exact RA0
def valR (r:Req):Bool:=keyR r && decide ((r.val.length:Int)<=64)
theorem sh1_ac (r:Req) (hr:r.small):AF 135 [.ag (eRq r)] (B (valR r)):=by
 have h:=rkey_ac r hr;have hv:=hr.v;unfold valR;generalize keyR r=x at *
 cases x<;>cases q1:decide ((r.val.length:Int)<=64)<;>(
  refine AC.E func135 ntmps135 ?_;intros;refine CP.SL ?_
  repeat' (first|((first|refine wA1 ?_|(refine GA ?_ ?_<;>intro hg)|(refine GV ?_;intros;simp only [nz])|refine wA6 ?_)<;>(try simp only [bsz,q1,nq,Nat.reduceBEq,Nat.reduceAdd,Nat.reduceSub]))|refine wT3 ?_|with_reducible intro Q' hQ'|(refine GC ?_ ?_<;>intro hc)|simp only [laq])
  exact RA0)
def roomR (r:Req):Bool:=winS r.ten 1 8 && winS r.keys 0 65536 && winS r.spc 0 65536
theorem sh2_ac (r:Req):AF 137 [.ag (eRq r)] (B (roomR r)):=by
 have h1:=rten_ac r;have h2:=within_ac r.keys 0 65536;have h3:=within_ac r.spc 0 65536;unfold roomR;generalize winS r.ten 1 8=x at *;generalize winS r.keys 0 65536=y at *;generalize winS r.spc 0 65536=z at *
 cases x<;>cases y<;>cases z<;>(
  refine AC.E func137 ntmps137 ?_;intros;refine CP.SL ?_
  repeat' (first|((first|refine aC1 h1 ?_|refine aC1 h2 ?_|refine aC1 h3 ?_|refine wA1 ?_|(refine GA ?_ ?_<;>intro hg)|(refine GV ?_;intros;simp only [nz])|refine wA6 ?_)<;>try refine NQ ?_)|refine wT3 ?_|with_reducible intro Q' hQ'|(refine GC ?_ ?_<;>intro hc)|simp only [laq])
  exact RA0)
def swpR (r:Req):Bool:=valR r && decide ((r.old.length:Int)<=64)
abbrev tFv:TypeId:=101
abbrev vvB:Bx:=.c tFv [.sc (.func (.func 135) #[] #[])]
theorem sh6_ac (r:Req) (hr:r.small):AC prog 143 [.ag (eRq r),.bp 0 0 0] [vvB] (fun v bs'=>v=B (swpR r)/\bs'=[vvB]):=by
 have h:=sh1_ac r hr;have ho:=hr.o;unfold swpR;generalize valR r=x at *
 cases x<;>cases q1:decide ((r.old.length:Int)<=64)<;>(
  refine AC.E func143 ntmps143 ?_;intros;refine CP.SL ?_
  repeat' (first|((first|refine wA1 ?_|(refine GA ?_ ?_<;>intro hg)|(refine GV ?_;intros;simp only [nz])|refine wA6 ?_)<;>(try simp only [bsz,q1,nq,Nat.reduceBEq,Nat.reduceAdd,Nat.reduceSub]))|refine wT3 ?_|with_reducible intro Q' hQ'|(refine GC ?_ ?_<;>intro hc)|simp only [laq])
  exact RA1)
def lstR (r:Req):Bool:=decide ((r.key.length:Int)<=24) && winS r.n 1 16
theorem sh8_ac (r:Req) (hr:r.small):AF 145 [.ag (eRq r)] (B (lstR r)):=by
 have hk:=hr.k;have h1:=within_ac r.n 1 16;unfold lstR;generalize winS r.n 1 16=y at *
 cases q1:decide ((r.key.length:Int)<=24)<;>cases y<;>(
  refine AC.E func145 ntmps145 ?_;intros;refine CP.SL ?_
  repeat' (first|((first|refine wA1 ?_|(refine GA ?_ ?_<;>intro hg)|(refine GV ?_;intros;simp only [nz])|refine wA6 ?_)<;>(try simp only [bsz,q1,nq,Nat.reduceBEq,Nat.reduceAdd,Nat.reduceSub]))|refine wT3 ?_|with_reducible intro Q' hQ'|(refine GC ?_ ?_<;>intro hc)|simp only [laq])
  exact RA0)
def gntR (r:Req):Bool:=winS r.ten 0 8 && winS (r.g.rts.toNat:Int) 1 15 && winS r.g.exp 0 1099511627776 && (r.g.ser == 0)
theorem sh10_ac (r:Req):AF 147 [.ag (eRq r)] (B (gntR r)):=by
 have h1:=rany2_ac r;have h2:=within_ac (r.g.rts.toNat:Int) 1 15;have h3:=within_ac r.g.exp 0 1099511627776;have hw:=u8_i64 r.g.rts;unfold gntR;generalize winS r.ten 0 8=x at *;generalize winS (r.g.rts.toNat:Int) 1 15=y at *;generalize winS r.g.exp 0 1099511627776=z at *
 cases x<;>cases y<;>cases z<;>cases q1:(r.g.ser == 0)<;>(
  refine AC.E func147 ntmps147 ?_;intros;refine CP.SL ?_
  repeat' (first|((first|refine aC1 h1 ?_|refine aC1 h2 ?_|refine aC1 h3 ?_|refine wA1 ?_|(refine GA ?_ ?_<;>intro hg)|(refine GV ?_;intros;simp only [nz])|refine wA6 ?_)<;>(try simp only [hw,q1,nq,Nat.reduceBEq,Nat.reduceAdd,Nat.reduceSub]))|refine wT3 ?_|with_reducible intro Q' hQ'|(refine GC ?_ ?_<;>intro hc)|simp only [laq])
  exact RA0)
def rvkR (r:Req):Bool:=winS r.ten 0 8 && winS r.n 0 65536
theorem sh12_ac (r:Req):AF 150 [.ag (eRq r)] (B (rvkR r)):=by
 have h1:=rany2_ac r;have h2:=within_ac r.n 0 65536;unfold rvkR;generalize winS r.ten 0 8=x at *;generalize winS r.n 0 65536=y at *
 cases x<;>cases y<;>(
  refine AC.E func150 ntmps150 ?_;intros;refine CP.SL ?_
  repeat' (first|((first|refine aC1 h1 ?_|refine aC1 h2 ?_|refine wA1 ?_|(refine GA ?_ ?_<;>intro hg)|(refine GV ?_;intros;simp only [nz])|refine wA6 ?_)<;>try refine NQ ?_)|refine wT3 ?_|with_reducible intro Q' hQ'|(refine GC ?_ ?_<;>intro hc)|simp only [laq])
  exact RA0)
abbrev rqB (r:Req):Bx:=.c tRq (eRq r)
theorem sh3_ac (r:Req):AC prog 140 [.bp 0 0 0] [rqB r] (fun v bs'=>v=.tu []/\bs'=[rqB { r with ten:=0,keys:=0,spc:=0 }]):=by
 refine AC.E func140 ntmps140 ?_;intros
 repeat' (first|((first|refine wA1 ?_|(refine GA ?_ ?_<;>intro hg)|(refine GV ?_;intros;simp only [nz])|refine wA6 ?_)<;>try refine NQ ?_)|refine wT3 ?_|with_reducible intro Q' hQ'|(refine GC ?_ ?_<;>intro hc)|simp only [laq])
 exact RA1
theorem sh4_ac (r:Req):AC prog 141 [.bp 0 0 0] [rqB r] (fun v bs'=>v=.tu []/\bs'=[rqB { r with key:=[] }]):=by
 refine AC.E func141 ntmps141 ?_;intros
 repeat' (first|((first|refine wA1 ?_|(refine GA ?_ ?_<;>intro hg)|(refine GV ?_;intros;simp only [nz])|refine wA6 ?_)<;>try refine NQ ?_)|refine wT3 ?_|with_reducible intro Q' hQ'|(refine GC ?_ ?_<;>intro hc)|simp only [laq])
 exact RA1
theorem sh5_ac (r:Req):AC prog 142 [.bp 0 0 0] [rqB r] (fun v bs'=>v=.tu []/\bs'=[rqB { r with key:=[],val:=[] }]):=by
 refine AC.E func142 ntmps142 ?_;intros
 repeat' (first|((first|refine wA1 ?_|(refine GA ?_ ?_<;>intro hg)|(refine GV ?_;intros;simp only [nz])|refine wA6 ?_)<;>try refine NQ ?_)|refine wT3 ?_|with_reducible intro Q' hQ'|(refine GC ?_ ?_<;>intro hc)|simp only [laq])
 exact RA1
theorem sh7_ac (r:Req):AC prog 144 [.bp 0 0 0] [rqB r] (fun v bs'=>v=.tu []/\bs'=[rqB { r with key:=[],val:=[],old:=[] }]):=by
 refine AC.E func144 ntmps144 ?_;intros
 repeat' (first|((first|refine wA1 ?_|(refine GA ?_ ?_<;>intro hg)|(refine GV ?_;intros;simp only [nz])|refine wA6 ?_)<;>try refine NQ ?_)|refine wT3 ?_|with_reducible intro Q' hQ'|(refine GC ?_ ?_<;>intro hc)|simp only [laq])
 exact RA1
theorem sh9_ac (r:Req):AC prog 146 [.bp 0 0 0] [rqB r] (fun v bs'=>v=.tu []/\bs'=[rqB { r with key:=[],n:=0 }]):=by
 refine AC.E func146 ntmps146 ?_;intros
 repeat' (first|((first|refine wA1 ?_|(refine GA ?_ ?_<;>intro hg)|(refine GV ?_;intros;simp only [nz])|refine wA6 ?_)<;>try refine NQ ?_)|refine wT3 ?_|with_reducible intro Q' hQ'|(refine GC ?_ ?_<;>intro hc)|simp only [laq])
 exact RA1
theorem sh11_ac (r:Req):AC prog 149 [.bp 0 0 0] [rqB r] (fun v bs'=>v=.tu []/\bs'=[rqB { r with ten:=0,g:=⟨0,0,0⟩ }]):=by
 refine AC.E func149 ntmps149 ?_;intros
 repeat' (first|((first|refine wA1 ?_|(refine GA ?_ ?_<;>intro hg)|(refine GV ?_;intros;simp only [nz])|refine wA6 ?_)<;>try refine NQ ?_)|refine wT3 ?_|with_reducible intro Q' hQ'|(refine GC ?_ ?_<;>intro hc)|simp only [laq])
 exact RA1
theorem sh13_ac (r:Req):AC prog 151 [.bp 0 0 0] [rqB r] (fun v bs'=>v=.tu []/\bs'=[rqB { r with ten:=0,n:=0 }]):=by
 refine AC.E func151 ntmps151 ?_;intros
 repeat' (first|((first|refine wA1 ?_|(refine GA ?_ ?_<;>intro hg)|(refine GV ?_;intros;simp only [nz])|refine wA6 ?_)<;>try refine NQ ?_)|refine wT3 ?_|with_reducible intro Q' hQ'|(refine GC ?_ ?_<;>intro hc)|simp only [laq])
 exact RA1
theorem sh15_ac (r:Req):AC prog 153 [.bp 0 0 0] [rqB r] (fun v bs'=>v=.tu []/\bs'=[rqB { r with n:=0 }]):=by
 refine AC.E func153 ntmps153 ?_;intros
 repeat' (first|((first|refine wA1 ?_|(refine GA ?_ ?_<;>intro hg)|(refine GV ?_;intros;simp only [nz])|refine wA6 ?_)<;>try refine NQ ?_)|refine wT3 ?_|with_reducible intro Q' hQ'|(refine GC ?_ ?_<;>intro hc)|simp only [laq])
 exact RA1
