/- Parts. -/
import Derived.Test.YtnjllcnjcpfbhaaGreatZS43
namespace Go.Proofs.YtnjllcnjcpfbhaaGreat
set_option linter.unusedVariables false
set_option linter.unusedSimpArgs false
open Go.RowKit Go.Proofs.Tryz
set_option maxRecDepth 100000
set_option maxHeartbeats 8000000
theorem apply_bad {root:List UInt8} {s:St} {e:Entry} {m kn:Bool} {R:Rep} {er:Int}
 (h1:AF 51 [.ag (eSt s)] (.ag (eSt s)))
 (h2:AF 52 [lasA s.lasts,I e.client,I e.id] (.tu [.ag (eRp R),B kn,I er]))
 (h3:AF 9 [.ag (eSt s)] (B m))
 (hb:(!m || e.pos != IntKind.i64.wrap (s.pos + 1) || decide (1099511627776 < e.pos) || !clkS e.stamp || (er == 2))=true) :
 AF 20 [bs none root,.ag (eSt s),.ag (eE none e)] (.tu [.ag (eSt s),.ag (eRp (failR 2))]):=by
 have h4:=clock_ac e.stamp
 cases m with
 | false => refine AC.N func20 ntmps20 ?_
            intro X hρ hmks;refine NX ?_;iterate 3 refine CP.SL ?_
            repeat' (first|((first|refine wA1 ?_|(refine GA ?_ ?_<;>intro hg)|(refine GV ?_;intros;simp only [nz])|refine wA6 ?_|refine wD1 ?_)<;>try refine NQ ?_)|refine wT6 ?_|with_reducible intro Q' hQ'|(refine GC ?_ ?_<;>intro hc)|simp only [laq])
            exact RA0
 | true=>
 cases q1:(e.pos != IntKind.i64.wrap (s.pos + 1)) with
 | true => refine AC.N func20 ntmps20 ?_
           intro X hρ hmks;refine NX ?_;iterate 3 refine CP.SL ?_
           repeat' (first|((first|refine wA1 ?_|(refine GA ?_ ?_<;>intro hg)|(refine GV ?_;intros;simp only [nz])|refine wA6 ?_|refine wD1 ?_)<;>try refine wN0 ?_)|refine wT6 ?_|with_reducible intro Q' hQ'|(refine GC ?_ ?_<;>intro hc)|simp only [laq])
           exact RA0
 | false=>
 cases q2:decide (1099511627776 < e.pos) with
 | true => refine AC.N func20 ntmps20 ?_
           intro X hρ hmks;refine NX ?_;iterate 3 refine CP.SL ?_
           repeat' (first|((first|refine wA1 ?_|(refine GA ?_ ?_<;>intro hg)|(refine GV ?_;intros;simp only [nz])|refine wA6 ?_|refine wD1 ?_)<;>try refine wN1 ?_)|refine wT6 ?_|with_reducible intro Q' hQ'|(refine GC ?_ ?_<;>intro hc)|simp only [laq])
           exact RA0
 | false=>
 cases q3:clkS e.stamp with
 | false=>
  rw [q3] at h4;refine AC.E func20 ntmps20 ?_;intros;iterate 3 refine CP.SL ?_
  repeat' (first|((first|refine wA1 ?_|(refine GA ?_ ?_<;>intro hg)|(refine GV ?_;intros;simp only [nz])|refine wA6 ?_|refine wD1 ?_)<;>try refine wN1 ?_)|refine wT6 ?_|with_reducible intro Q' hQ'|(refine GC ?_ ?_<;>intro hc)|simp only [laq])
  exact RA0
 | true=>
  rw [q1,q2,q3] at hb;rw [q3] at h4;have q4:(er == 2)=true:=by simpa using hb
  refine AC.E func20 ntmps20 ?_;intros;iterate 3 refine CP.SL ?_
  repeat' (first|((first|refine wA1 ?_|(refine GA ?_ ?_<;>intro hg)|(refine GV ?_;intros;simp only [nz])|refine wA6 ?_|refine wD1 ?_)<;>(try simp only [q1,q2,q4,nq,Nat.reduceBEq,Nat.reduceAdd,Nat.reduceSub]))|refine wT6 ?_|with_reducible intro Q' hQ'|(refine GC ?_ ?_<;>intro hc)|simp only [laq])
  exact RA0
theorem apply_err {root:List UInt8} {s:St} {e:Entry} {kn:Bool} {R:Rep} {er:Int}
 (h1:AF 51 [.ag (eSt s)] (.ag (eSt s)))
 (h2:AF 52 [lasA s.lasts,I e.client,I e.id] (.tu [.ag (eRp R),B kn,I er]))
 (h3:AF 9 [.ag (eSt s)] (B true)) (hp:e.pos=s.pos + 1) (hp1:e.pos<=1099511627776) (hp0:0<=s.pos) (hck:clkS e.stamp=true) (he:er≠2) (he0:er≠0) :
 AF 20 [bs none root,.ag (eSt s),.ag (eE none e)] (.tu [.ag (eSt { s with pos:=s.pos + 1 }),.ag (eRp (failR er))]):=by
 have h4:=clock_ac e.stamp;rw [hck] at h4;have w1:IntKind.i64.wrap (s.pos + 1)=s.pos + 1:=wrap_i64 (by omega) (by omega);have q1:(e.pos != s.pos + 1)=false:=by simpa using hp
 have q2:decide (1099511627776 < e.pos)=false:=decide_eq_false (by omega);have q4:(er == 2)=false:=by simpa using he
 have q5:(er != 0)=true:=by simpa using he0
 refine AC.E func20 ntmps20 ?_;intros;iterate 3 refine CP.SL ?_
 repeat' (first|((first|refine wA1 ?_|(refine GA ?_ ?_<;>intro hg)|(refine GV ?_;intros;simp only [nz])|refine wA6 ?_|refine wD1 ?_)<;>(try simp only [w1,q1,q2,q4,q5,nq,Nat.reduceBEq,Nat.reduceAdd,Nat.reduceSub]))|refine wT6 ?_|with_reducible intro Q' hQ'|(refine GC ?_ ?_<;>intro hc)|simp only [laq])
 exact RA0
theorem apply_kn {root:List UInt8} {s:St} {e:Entry} {R:Rep}
 (h1:AF 51 [.ag (eSt s)] (.ag (eSt s)))
 (h2:AF 52 [lasA s.lasts,I e.client,I e.id] (.tu [.ag (eRp R),B true,I 0]))
 (h3:AF 9 [.ag (eSt s)] (B true)) (hp:e.pos=s.pos + 1) (hp1:e.pos<=1099511627776) (hp0:0<=s.pos) (hck:clkS e.stamp=true) :
 AF 20 [bs none root,.ag (eSt s),.ag (eE none e)] (.tu [.ag (eSt { s with pos:=s.pos + 1 }),.ag (eRp R)]):=by
 have h4:=clock_ac e.stamp;rw [hck] at h4;have w1:IntKind.i64.wrap (s.pos + 1)=s.pos + 1:=wrap_i64 (by omega) (by omega);have q1:(e.pos != s.pos + 1)=false:=by simpa using hp
 have q2:decide (1099511627776 < e.pos)=false:=decide_eq_false (by omega);have q4:((0:Int) == 2)=false:=rfl;have q5:((0:Int) != 0)=false:=rfl;refine AC.E func20 ntmps20 ?_;intros;iterate 3 refine CP.SL ?_
 repeat' (first|((first|refine wA1 ?_|(refine GA ?_ ?_<;>intro hg)|(refine GV ?_;intros;simp only [nz])|refine wA6 ?_|refine wD1 ?_)<;>(try simp only [w1,q1,q2,q4,q5,nq,Nat.reduceBEq,Nat.reduceAdd,Nat.reduceSub]))|refine wT6 ?_|with_reducible intro Q' hQ'|(refine GC ?_ ?_<;>intro hc)|simp only [laq])
 exact RA0
theorem apply_do {root:List UInt8} {s:St} {e:Entry} {R:Rep} {s2:St} {r:Rep} {L:List Las} {ne:Int}
 (h1:AF 51 [.ag (eSt s)] (.ag (eSt s)))
 (h2:AF 52 [lasA s.lasts,I e.client,I e.id] (.tu [.ag (eRp R),B false,I 0]))
 (h3:AF 9 [.ag (eSt s)] (B true))
 (h5:AF 53 [bs none root,.ag (eSt s),I e.stamp,bs none e.body] (.tu [.ag (eSt s2),.ag (eRp r)]))
 (h6:AF 54 [lasA s2.lasts,I e.client,I e.id,.ag (eRp r)] (.tu [lasA L,I ne])) (hp2:s2.pos=s.pos)
 (hp:e.pos=s.pos + 1) (hp1:e.pos<=1099511627776) (hp0:0<=s.pos) (hck:clkS e.stamp=true) :
 AF 20 [bs none root,.ag (eSt s),.ag (eE none e)] (.tu [.ag (eSt { s2 with pos:=s.pos + 1,lasts:=L }),.ag (eRp r)]):=by
 have h4:=clock_ac e.stamp;rw [hck] at h4;have w1:IntKind.i64.wrap (s.pos + 1)=s.pos + 1:=wrap_i64 (by omega) (by omega);have q1:(e.pos != s.pos + 1)=false:=by simpa using hp
 have q2:decide (1099511627776 < e.pos)=false:=decide_eq_false (by omega);have q4:((0:Int) == 2)=false:=rfl;have q5:((0:Int) != 0)=false:=rfl;refine AC.E func20 ntmps20 ?_;intros;iterate 3 refine CP.SL ?_
 repeat' (first|((first|refine wA1 ?_|(refine GA ?_ ?_<;>intro hg)|(refine GV ?_;intros;simp only [nz])|refine wA6 ?_|refine wD1 ?_)<;>(try simp only [hp2,w1,q1,q2,q4,q5,nq,Nat.reduceBEq,Nat.reduceAdd,Nat.reduceSub]))|refine wT6 ?_|with_reducible intro Q' hQ'|(refine GC ?_ ?_<;>intro hc)|simp only [laq])
 exact RA0
theorem apply_ac {k:Nat} {s:St} (h:Inv k s) (hk:k<=900000) (root:List UInt8) (hrt:root.length<=100000) (e:Entry) (hb:e.body.length<=100000000):AF 20 [bs none root,.ag (eSt s),.ag (eE none e)] (.tu [.ag (eSt (applyS root s e).1),.ag (eRp (applyS root s e).2)]):=by
 have hs:=maySt_all h.may;have hkk:∀ x∈s.lasts,x.rep.keys.length<=1000000:=fun x hx=>by have:=h.keys x hx;omega
 have hln:=h.len;have h1:=(sown_ac s hs (by omega) hkk).ro (r2:=.ag (eSt s)) (by simp only [AV.ro,roC,roTe,roS,roLk,roL]);have h2:=lask_ac s.lasts hs.l hkk e.client e.id;have h3:=stmay_ac s hs;unfold applyS
 cases hbd:badE s e with
 | true=>
  rw [if_pos rfl];exact apply_bad h1 h2 h3 hbd
 | false=>
  rw [if_neg (by simp)];obtain ⟨g1,g2,g3,g4,g5⟩:=badE_no hbd;have hc:=(maySt_of g1).1;simp only [clkS,Bool.and_eq_true,decide_eq_true_eq] at hc;rw [g1] at h3
  by_cases he:(askL s.lasts e.client e.id).2.2=0
  ·rw [if_neg (by simpa using he)];rw [he] at h2
   cases hkn:(askL s.lasts e.client e.id).2.1 with
   | true=>
    rw [if_pos rfl];rw [hkn] at h2;exact apply_kn h1 h2 h3 g2 g3 hc.1 g4
   | false=>
    rw [if_neg (by simp)];rw [hkn] at h2;obtain ⟨kp,kk⟩:=doS_kept root s e.stamp e.body;have h5:=do_ac root hrt s e.stamp e.body hb hs (by omega) h.self hkk;have h6:=lnote_ac (doS root s e.stamp e.body).1.lasts (by rw [kp.lasts];have:=mayL_len (maySt_of g1).2.2.1;omega) (by rw [kp.lasts];exact hkk) e.client e.id (doS root s e.stamp e.body).2 (by omega);exact apply_do h1 h2 h3 h5 h6 kp.pos g2 g3 hc.1 g4
  ·rw [if_pos he];exact apply_err h1 h2 h3 g2 g3 hc.1 g4 g5 he
