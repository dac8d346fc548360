/- Parts. -/
import Derived.Test.YtnjllcnjcpfbhaaGreatZS24
import Derived.Test.YtnjllcnjcpfbhaaGreatZS30
import Derived.Test.YtnjllcnjcpfbhaaGreatZS34
import Derived.Test.YtnjllcnjcpfbhaaGreatZS35
import Derived.Test.YtnjllcnjcpfbhaaGreatZS36
namespace Go.Proofs.YtnjllcnjcpfbhaaGreat
set_option linter.unusedVariables false
set_option linter.unusedSimpArgs false
open Go.RowKit Go.Proofs.Tryz
set_option maxRecDepth 100000
set_option maxHeartbeats 8000000
def opS (root:List UInt8) (s:St) (q:Req) (st:Int) (n:Nat) (x:Ten):Rep×St:=match q.op.toNat with
 | 1=>(oGet s q x,s)
 | 2=>oChg s q n x
 | 3=>oChg s q n x
 | 4=>oChg s q n x
 | 5=>(oList q x,s)
 | 6=>oCre s q st
 | 7=>oRsz s q st
 | 8=>oGnt root s q st
 | 9=>oRev s q st
 | 10=>(oAudit s q,s)
 | _=>(rp0,s)
def doX (root:List UInt8) (s:St) (st:Int) (q:Req) (t:Tok) (n:Nat) (x:Ten):St×Rep:=
 if (t.line.any fun g=>hasI x.rev g.ser)=true then (s,failR 93)
 else if verS (keyT root t.ten) t st (needS q.op)=0 then
  (if needS q.op=0\/needS q.op=8/\t.ten≠0 then (s,failR 94)
  else if (opS root s q st n x).1.err=0 then ((opS root s q st n x).2,(opS root s q st n x).1) else (s,failR (opS root s q st n x).1.err))
 else (s,failR (verS (keyT root t.ten) t st (needS q.op)))
def doT (root:List UInt8) (s:St) (st:Int) (q:Req) (t:Tok):St×Rep:=
 if checkT (keyT root t.ten) t=0 then (match s.tens.findIdx? (fun x:Ten=>x.num == t.ten) with
  | none=>(s,failR 160)
  | some n=>match s.tens[n]? with
   | none=>(s,failR 160)
   | some x=>doX root s st q t n x)
 else (s,failR (checkT (keyT root t.ten) t))
def doQ (root:List UInt8) (s:St) (st:Int) (q:Req):St×Rep:=
 if (parT q.tok).2=0 then doT root s st q (parT q.tok).1 else (s,failR (parT q.tok).2)
def doS (root:List UInt8) (s:St) (st:Int) (body:List UInt8):St×Rep:=
 if maySt s=false then (s,failR 2) else if (parseRq body).2=0 then doQ root s st (parseRq body).1 else (s,failR 150)
theorem rise_inj {α:Type} {key:α->Int}:∀ {l:List α},(l.map key).Pairwise (· < ·)->∀ {x y:α},x∈l->y∈l->key x=key y->x=y
 | [],_,_,_,hx,_,_=>by cases hx
 | a :: l,h,x,y,hx,hy,e=>by
  rw [List.map_cons,List.pairwise_cons] at h;rcases List.mem_cons.1 hx with hx1|hx1
  ·rcases List.mem_cons.1 hy with hy1|hy1
   ·rw [hx1,hy1]
   ·have:=h.1 _ (List.mem_map_of_mem hy1);rw [hx1] at e;omega
  ·rcases List.mem_cons.1 hy with hy1|hy1
   ·have:=h.1 _ (List.mem_map_of_mem hx1);rw [hy1] at e;omega
   ·exact rise_inj h.2 hx1 hy1 e
theorem rise_filter {α:Type} {key:α->Int} {l:List α} (p:α->Bool) (h:(l.map key).Pairwise (· < ·)):((l.filter p).map key).Pairwise (· < ·):=h.sublist (List.filter_sublist.map key)
theorem rise_drop1 {α:Type} {key:α->Int} {k:Int}:∀ {l:List α},(l.map key).Pairwise (· < ·)->(∃ y∈l,key y=k)->(l.filter fun y=>!(key y == k)).length + 1=l.length
 | [],_,⟨_,h,_⟩=>by cases h
 | a :: l,h,⟨y,hy,e⟩=>by
  rw [List.map_cons,List.pairwise_cons] at h
  by_cases ha:key a=k
  ·have hf:l.filter (fun y=>!(key y == k))=l:=List.filter_eq_self.2 fun z hz=>by
    have:=h.1 _ (List.mem_map_of_mem hz);simp;omega
   rw [List.filter_cons_of_neg (by simp [ha]),hf,List.length_cons]
  ·rw [List.filter_cons_of_pos (by simp [ha]),List.length_cons,List.length_cons,rise_drop1 h.2 ⟨y,by
    rcases List.mem_cons.1 hy with rfl|hy
    ·exact absurd e ha
    ·exact hy,e⟩]
theorem mayQ_iff {l:List Shr}:mayQ l=true↔l.length<=8/\(∀ x∈l,shrS x=true)/\(l.map Shr.ten).Pairwise (· < ·)/\fitQ l=true:=by
 simp only [mayQ,ascQ,Bool.and_eq_true,decide_eq_true_eq,asc_rise,and_assoc]
theorem shrS_of {x:Shr} (h:shrS x=true):1<=x.ten/\x.ten<=8/\0<=x.keys/\x.keys<=64/\0<=x.spc/\x.spc<=4096:=by
 simp only [shrS,Bool.and_eq_true,decide_eq_true_eq] at h;omega
theorem putQ_may {l:List Shr} {x:Shr} (h:mayQ l=true) (hx:shrS x=true) (h0:(putQ l x).2=0):mayQ (putQ l x).1=true/\(∀ y,y∈(putQ l x).1↔y=x\/y∈l/\y.ten≠x.ten)/\(putQ l x).1.length=(l.filter fun y=>!(y.ten == x.ten)).length + 1:=by
 obtain ⟨h1,h2,h3,h4⟩:=mayQ_iff.1 h;unfold putQ at h0 ⊢;split at h0
 ·next hf=>
  rw [if_pos hf]
  have hm:∀ y,y∈insL (fun y=>decide (x.ten < y.ten)) x (l.filter fun y=>!(sameT x y))↔y=x\/y∈l/\y.ten≠x.ten:=fun y=>by
   rw [insL_has,List.mem_filter];simp [sameT]
  have ha:∀ y∈insL (fun y=>decide (x.ten < y.ten)) x (l.filter fun y=>!(sameT x y)),shrS y=true:=fun y hy=>by
   rcases (hm y).1 hy with rfl|hy
   ·exact hx
   ·exact h2 y hy.1
  have hr:=insL_rise (key:=Shr.ten) (x:=x) (rise_filter (fun y=>!(sameT x y)) h3) fun y hy=>by
   have:=(List.mem_filter.1 hy).2
   simpa [sameT] using this
  refine ⟨mayQ_iff.2 ⟨?_,ha,hr,hf⟩,hm,insL_len ..⟩
  have:=rise_len (a:=1) (b:=8) hr fun z hz=>by
   obtain ⟨y,hy,rfl⟩:=List.mem_map.1 hz;have:=shrS_of (ha y hy);omega
  rw [List.length_map] at this;dsimp only;omega
 ·cases h0
theorem ofQ_has {l:List Shr} {y:Shr} {t:Int} (h:(l.map Shr.ten).Pairwise (· < ·)) (hy:y∈l) (ht:y.ten=t):ofQ l t=(y,true):=by
 unfold ofQ
 cases hf:l.find? (fun x=>x.ten == t) with
 | none=>exact absurd (List.find?_eq_none.1 hf y hy) (by simp [ht])
 | some z=>
  have e:z=y:=rise_inj h (List.mem_of_find?_eq_some hf) hy (by have:=List.find?_some hf;rw [ht];simpa using this);rw [e]
theorem tenS_mk {sh:List Shr} {t:Ten} (h:(sh.map Shr.ten).Pairwise (· < ·)) (hm:(⟨t.num,t.spc.keys,t.spc.bytes⟩:Shr)∈sh) (h1:clkS t.ser=true) (h2:mayR t.rev=true) (h3:maySp t.spc=true):tenS sh false t=true:=by
 have e:=ofQ_has h hm rfl;dsimp only at e;unfold tenS;rw [h1,h2,h3];dsimp only;rw [e];simp [sh3,eqVs,eqV1]
theorem tenS_in {sh:List Shr} {t:Ten} (h:tenS sh false t=true):(⟨t.num,t.spc.keys,t.spc.bytes⟩:Shr)∈sh:=by
 simp only [tenS,Bool.and_eq_true] at h;obtain ⟨e1,e2,e3⟩:=sh3_of h.2.2;have h2:=h.2.1;unfold ofQ at e1 e2 e3 h2
 cases hf:sh.find? (fun x=>x.ten == t.num) with
 | none=>rw [hf] at h2;cases h2
 | some z=>
  rw [hf] at e1 e2 e3;dsimp only at e1 e2 e3;have:z=⟨t.num,t.spc.keys,t.spc.bytes⟩:=by cases z;dsimp only at e1 e2 e3;rw [e1,e2,e3]
  rw [←this];exact List.mem_of_find?_eq_some hf
theorem maySt_split {s:St} (h:maySt s=true):∃ t0 rest,s.tens=t0 :: rest/\rest.length=s.sh.length/\tenS s.sh true t0=true/\t0.num=0/\(∀ t∈rest,0 < t.num/\tenS s.sh false t=true)/\((t0 :: rest).map Ten.num).Pairwise (· < ·):=by
 obtain ⟨_,_,_,h4,h5⟩:=maySt_of h
 cases ht:s.tens with
 | nil=>rw [ht] at h4;simp at h4
 | cons t0 rest=>
  rw [ht] at h4 h5;obtain ⟨h6,h7,h8⟩:=ascN_of (key:=Ten.num) (ok:=tenS s.sh) h5
  have h9:t0.num=0:=by
   simp only [tenS,Bool.and_eq_true] at h6;exact (sh3_of h6.2.1).1
  exact ⟨t0,rest,rfl,by simpa using h4,h6,h9,fun t ht=>by have:=h7 t ht;rw [h9] at this;exact this,h8⟩
theorem maySt_mk {s:St} {t0:Ten} {rest:List Ten} (h1:clkS s.pos=true) (h2:mayQ s.sh=true) (h3:mayL' s.lasts=true) (ht:s.tens=t0 :: rest) (h4:rest.length=s.sh.length) (h5:tenS s.sh true t0=true) (h6:∀ t∈rest,tenS s.sh false t=true) (h7:((t0 :: rest).map Ten.num).Pairwise (· < ·)):maySt s=true:=by
 unfold maySt ascT;rw [h1,h2,h3,ht,ascN_mk (key:=Ten.num) h5 h6 h7,decide_eq_true (by rw [List.length_cons,h4])];rfl
theorem maySt_set {s:St} {n:Nat} {t t':Ten} (h:maySt s=true) (hn:s.tens[n]? = some t) (hk:t'.num=t.num) (ho:∀ b,tenS s.sh b t=true->tenS s.sh b t'=true) (L:List Lnk):maySt { s with tens:=s.tens.set n t',links:=L }=true:=by
 obtain ⟨h1,h2,h3,h4,h5⟩:=maySt_of h;unfold maySt ascT;dsimp only;unfold ascT at h5;rw [h1,h2,h3,List.length_set,decide_eq_true h4,ascB_set (key:=Ten.num) hn hk ho h5];rfl
theorem withP_ok {s:Spc} {i j:Nat} {l:List Pr} (h:(withP s i j l).2=0):maySp (withP s i j l).1=true/\(withP s i j l).1.keys=s.keys/\(withP s i j l).1.bytes=s.bytes:=by
 unfold withP at h ⊢;split at h
 ·next hm=>rw [if_pos hm];exact ⟨hm,rfl,rfl⟩
 ·cases h
theorem chgP_ok {q:Req} {s:Spc} (h:(chgP q s).2=0):maySp (chgP q s).1=true/\(chgP q s).1.keys=s.keys/\(chgP q s).1.bytes=s.bytes:=by
 unfold chgP at h ⊢;split at h
 ·next h2=>
  rw [if_pos h2];unfold putP at h ⊢;split at h
  ·next h3=>rw [if_pos h3];exact withP_ok h
  ·next h3=>exact absurd h h3
 ·next h2=>
  rw [if_neg h2];split at h
  ·next h3=>
   rw [if_pos h3];unfold swapP at h ⊢;rcases lookP_cases s ⟨q.key,q.val⟩ with ⟨e,_⟩|⟨_,⟨e,_⟩|⟨n,x,e,hx,_⟩⟩
   ·rw [e] at h;cases h
   ·rw [e] at h;cases h
   ·rw [e] at h ⊢;dsimp only at h ⊢;rw [if_pos rfl,if_pos rfl,hx] at h ⊢;dsimp only at h ⊢;split at h
    ·next h4=>rw [if_pos h4];exact withP_ok h
    ·cases h
  ·next h3=>
   rw [if_neg h3];unfold delP at h ⊢;split at h
   ·next h4=>
    rw [if_pos h4];split at h
    ·next h5=>rw [if_pos h5];exact withP_ok h
    ·cases h
   ·next h4=>exact absurd h h4
theorem addR_ok {l:List Int} {n:Int} (h:(addR l n).2=0):mayR (addR l n).1=true:=by
 unfold addR at h ⊢;split at h
 ·cases h
 ·next h1=>
  rw [if_neg h1];unfold unionS at h ⊢;split at h
  ·cases h
  ·next h2=>
   split at h
   ·cases h
   ·next h3=>
    rw [if_neg h2,if_neg h3];have h2:mayR l=true/\mayR [n]=true:=by simpa using h2
    have ha:=h2.1;have hb:=h2.2;simp only [mayR,Bool.and_eq_true,asc_rise,List.map_id] at ha hb ⊢;refine ⟨decide_eq_true (by omega),fun z hz=>?_,mrg_rise _ _ ha.2.2 hb.2.2⟩;rcases (mrg_mem ..).1 hz with hz|hz
    ·exact ha.2.1 z hz
    ·exact hb.2.1 z hz
theorem oRev_may {s:St} {q:Req} {st:Int} (h:maySt s=true) (he:(oRev s q st).1.err=0):maySt (oRev s q st).2=true:=by
 unfold oRev at he ⊢;split
 ·exact h
 ·split
  ·exact h
  ·next n _ t hn=>
   split
   ·next ha=>
    exact maySt_set (t':={ t with rev:=(addR t.rev q.n).1 }) h hn rfl (fun b hb=>by
     simp only [tenS,Bool.and_eq_true] at hb ⊢;exact ⟨⟨⟨hb.1.1.1,addR_ok ha⟩,hb.1.2⟩,hb.2⟩) _
   ·exact h
theorem oChg_may {s:St} {q:Req} {n:Nat} {t:Ten} (h:maySt s=true) (hn:s.tens[n]? = some t) (he:(oChg s q n t).1.err=0):maySt (oChg s q n t).2=true:=by
 have he:(chgP q t.spc).2=0:=he;obtain ⟨h1,h2,h3⟩:=chgP_ok he
 exact maySt_set (t':={ t with spc:=(chgP q t.spc).1 }) h hn rfl (fun b hb=>by
  simp only [tenS,Bool.and_eq_true] at hb ⊢;refine ⟨⟨hb.1.1,h1⟩,?_⟩;rw [h2,h3];exact hb.2) s.links
theorem oGnt_may {root:List UInt8} {s:St} {q:Req} {st:Int} (h:maySt s=true):maySt (oGnt root s q st).2=true:=by
 unfold oGnt;split
 ·exact h
 ·split
  ·exact h
  ·next n _ x hn=>
   split
   ·exact h
   ·next hg=>
    split
    ·exact h
    ·split
     ·have hg:grS ⟨q.g.rts,q.g.exp,x.ser + 1⟩=true:=by simpa using hg
      simp only [grS,Bool.and_eq_true,decide_eq_true_eq] at hg
      exact maySt_set (t':={ x with ser:=x.ser + 1 }) h hn rfl (fun b hb=>by
       simp only [tenS,Bool.and_eq_true] at hb ⊢;refine ⟨⟨⟨?_,hb.1.1.2⟩,hb.1.2⟩,?_⟩
       ·have:=hb.1.1.1;simp only [clkS,Bool.and_eq_true,decide_eq_true_eq] at this ⊢;omega
       ·cases b with
        | true=>
         have:=hb.2;simp only [Bool.and_eq_true,decide_eq_true_eq] at this ⊢;exact ⟨this.1,by omega⟩
        | false=>exact hb.2) _
     ·exact h
theorem maySp_nil {k b:Int} (h:limS k b=true):maySp ⟨k,b,[]⟩=true:=by
 have h':=h;simp only [limS,Bool.and_eq_true,decide_eq_true_eq] at h'
 show (limS k b && decide ((([]:List Pr).length:Int)<=k) && ascP [] && decide ((cntP []:Int)<=b))=true
 rw [h,decide_eq_true (show (([]:List Pr).length:Int)<=k by rw [List.length_nil];omega),decide_eq_true (show ((cntP []:Nat):Int)<=b by rw [cntP];omega)];rfl
theorem oCre_may {s:St} {q:Req} {st:Int} (h:maySt s=true):maySt (oCre s q st).2=true:=by
 unfold oCre;split
 ·next he=>
  unfold resQ at he ⊢;split at he
  ·cases he
  ·next ha=>
   split at he
   ·cases he
   ·next hb=>
    rw [if_neg ha,if_neg hb];have ha:mayQ s.sh=true/\shrS ⟨q.ten,q.keys,q.spc⟩=true:=by simpa using ha
    obtain ⟨p1,p2,p3⟩:=putQ_may ha.1 ha.2 he
    have hno:∀ y∈s.sh,y.ten≠q.ten:=fun y hy e=>by
     rcases idxF_cases (fun y:Shr=>y.ten == q.ten) s.sh with ⟨e1,hn⟩|⟨n,_,e1,_⟩
     ·exact absurd (hn y hy) (by simp [e])
     ·exact hb (by show 0<=idxF (fun y:Shr=>y.ten == q.ten) s.sh;rw [e1];omega)
    have hfl:s.sh.filter (fun y=>!(y.ten == q.ten))=s.sh:=List.filter_eq_self.2 fun y hy=>by simp [hno y hy]
    dsimp only at p2 p3;rw [hfl] at p3;obtain ⟨h1,h2,h3,h4,h5⟩:=maySt_of h;obtain ⟨t0,rest,ht,hl,a1,a2,a3,a4⟩:=maySt_split h;have hq:=shrS_of ha.2;dsimp only at hq;have hlim:limS q.keys q.spc=true:=by simp only [limS,Bool.and_eq_true,decide_eq_true_eq];omega
    have hnw:(newP q.keys q.spc).1=⟨q.keys,q.spc,[]⟩:=by unfold newP;rw [if_pos hlim]
    rw [List.map_cons,List.pairwise_cons] at a4;have hnt:∀ t∈rest,t.num≠q.ten:=fun t htt=>hno _ (tenS_in (a3 t htt).2)
    have hr:=(mayQ_iff.1 p1).2.2.1;refine maySt_mk (t0:=t0) (rest:=insL (fun y:Ten=>decide (q.ten < y.num)) ⟨q.ten,0,(newP q.keys q.spc).1,[]⟩ rest) h1 p1 h3 ?_ ?_ a1 ?_ ?_
    ·show insL _ _ s.tens=_
     rw [ht,insL_cons,if_neg (by simp;omega)]
    ·show _=(putQ s.sh ⟨q.ten,q.keys,q.spc⟩).1.length
     rw [insL_len,p3,hl]
    ·intro t htt;rcases insL_has.1 htt with rfl|htt
     ·refine tenS_mk hr ?_ rfl rfl ?_
      ·dsimp only;rw [hnw];exact (p2 _).2 (.inl rfl)
      ·dsimp only;rw [hnw];exact maySp_nil hlim
     ·have hz:=(a3 t htt).2;obtain ⟨c1,c2,c3⟩:=tenS_of hz;exact tenS_mk hr ((p2 _).2 (.inr ⟨tenS_in hz,hnt t htt⟩)) c1 c2 c3
    ·have:=insL_rise (key:=Ten.num) (x:=⟨q.ten,0,(newP q.keys q.spc).1,[]⟩) a4.2 hnt;rw [List.map_cons,List.pairwise_cons];refine ⟨fun z hz=>?_,this⟩;obtain ⟨y,hy,rfl⟩:=List.mem_map.1 hz;rcases insL_has.1 hy with rfl|hy
     ·show t0.num < q.ten;omega
     ·exact a4.1 _ (List.mem_map_of_mem hy)
 ·exact h
theorem maySp_more {k b k' b':Int} {l:List Pr} (h:maySp ⟨k,b,l⟩=true) (hl:limS k' b'=true) (h1:k<=k') (h2:b<=b'):maySp ⟨k',b',l⟩=true:=by
 unfold maySp at h ⊢;rw [hl];simp only [Bool.and_eq_true,decide_eq_true_eq,true_and] at h ⊢;exact ⟨⟨by omega,h.1.2⟩,by omega⟩
theorem oRsz_may {s:St} {q:Req} {st:Int} (h:maySt s=true):maySt (oRsz s q st).2=true:=by
 unfold oRsz;split
 ·next he=>
  split
  ·exact h
  ·next n hf=>
   split
   ·exact h
   ·next x hx=>
    split
    ·exact h
    ·next hkb=>
     unfold rszQ at he ⊢;split at he
     ·cases he
     ·next ha=>
      split at he
      ·cases he
      ·next hb=>
       rw [if_neg ha,if_neg hb];have ha:mayQ s.sh=true/\shrS ⟨q.ten,q.keys,q.spc⟩=true:=by simpa using ha
       obtain ⟨p1,p2,p3⟩:=putQ_may ha.1 ha.2 he;dsimp only at p2 p3;obtain ⟨h1,h2,h3,h4,h5⟩:=maySt_of h;have hq:=shrS_of ha.2;dsimp only at hq
       have hin:∃ y∈s.sh,y.ten=q.ten:=by
        rcases idxF_cases (fun y:Shr=>y.ten == q.ten) s.sh with ⟨e1,_⟩|⟨m,y,_,hy,hp,_⟩
        ·exact absurd (by show idxF (fun y:Shr=>y.ten == q.ten) s.sh < 0;rw [e1];decide) hb
        ·exact ⟨y,List.mem_of_getElem? hy,by simpa using hp⟩
       rw [rise_drop1 (mayQ_iff.1 h2).2.2.1 hin] at p3
       have hxn:x.num=q.ten:=by
        obtain ⟨hl,hp,_⟩:=List.findIdx?_eq_some_iff_getElem.1 hf;rw [List.getElem?_eq_getElem hl] at hx
        cases hx
        simpa using hp
       have hlim:limS q.keys q.spc=true:=by simp only [limS,Bool.and_eq_true,decide_eq_true_eq];omega
       obtain ⟨t0,rest,ht,hl,a1,a2,a3,a4⟩:=maySt_split h;rw [ht] at hx
       cases n with
       | zero=>simp at hx;subst hx;omega
       | succ m=>
        simp only [List.getElem?_cons_succ] at hx;have hr:=(mayQ_iff.1 p1).2.2.1;have hxm:=List.mem_of_getElem? hx;have hz:=(a3 x hxm).2;obtain ⟨c1,c2,c3⟩:=tenS_of hz;have a4':=a4;rw [List.map_cons,List.pairwise_cons] at a4'
        have hmap:(rest.set m { x with spc:=⟨q.keys,q.spc,x.spc.prs⟩ }).map Ten.num=rest.map Ten.num:=by
         rw [List.map_set]
         exact List.ext_getElem? fun i=>by
          rw [List.getElem?_set];split
          ·next e=>
           subst e;rw [List.getElem?_map,hx,List.length_map,if_pos (List.getElem?_eq_some_iff.1 hx).1];rfl
          ·rfl
        refine maySt_mk (t0:=t0) (rest:=rest.set m { x with spc:=⟨q.keys,q.spc,x.spc.prs⟩ }) h1 p1 h3 ?_ ?_ a1 ?_ ?_
        ·show s.tens.set (m + 1) _=_
         rw [ht,List.set_cons_succ]
        ·show _=(putQ s.sh ⟨q.ten,q.keys,q.spc⟩).1.length
         rw [List.length_set,p3,hl]
        ·intro t htt;obtain ⟨i,hi⟩:=List.mem_iff_getElem?.1 htt;rw [List.getElem?_set] at hi;split at hi
         ·next e=>
          split at hi
          ·cases hi
           refine tenS_mk hr ?_ c1 c2 ?_
           ·dsimp only;rw [hxn];exact (p2 _).2 (.inl rfl)
           ·dsimp only;exact maySp_more (k:=x.spc.keys) (b:=x.spc.bytes) c3 hlim (by omega) (by omega)
          ·cases hi
         ·next e=>
          have hti:=List.mem_of_getElem? hi;have hz2:=(a3 t hti).2;obtain ⟨d1,d2,d3⟩:=tenS_of hz2;refine tenS_mk hr ((p2 _).2 (.inr ⟨tenS_in hz2,fun e2=>?_⟩)) d1 d2 d3;dsimp only at e2;have hp:=List.pairwise_iff_getElem.1 a4'.2;obtain ⟨l1,g1⟩:=List.getElem?_eq_some_iff.1 hx;obtain ⟨l2,g2⟩:=List.getElem?_eq_some_iff.1 hi;rcases Nat.lt_or_gt_of_ne e with hlt|hlt
          ·have:=hp m i (by simpa using l1) (by simpa using l2) hlt;rw [List.getElem_map,List.getElem_map,g1,g2] at this;omega
          ·have:=hp i m (by simpa using l2) (by simpa using l1) hlt;rw [List.getElem_map,List.getElem_map,g1,g2] at this;omega
        ·rw [List.map_cons,hmap];rw [List.map_cons] at a4;exact a4
 ·exact h
theorem opS_may {root:List UInt8} {s:St} {q:Req} {st:Int} {n:Nat} {x:Ten} (h:maySt s=true) (hn:s.tens[n]? = some x) (he:(opS root s q st n x).1.err=0):maySt (opS root s q st n x).2=true:=by
 revert he
 unfold opS;split<;>intro he
 ·exact h
 ·exact oChg_may h hn he
 ·exact oChg_may h hn he
 ·exact oChg_may h hn he
 ·exact h
 ·exact oCre_may h
 ·exact oRsz_may h
 ·exact oGnt_may h
 ·exact oRev_may h he
 ·exact h
 ·exact h
theorem doS_may {root:List UInt8} {s:St} {st:Int} {body:List UInt8} (h:maySt s=true):maySt (doS root s st body).1=true:=by
 unfold doS;split
 ·exact h
 ·split
  ·unfold doQ;split
   ·unfold doT;split
    ·split
     ·exact h
     ·split
      ·exact h
      ·next n _ x hx=>
       unfold doX;split
       ·exact h
       ·split
        ·split
         ·exact h
         ·split
          ·next he=>exact opS_may h hx he
          ·exact h
        ·exact h
    ·exact h
   ·exact h
  ·exact h
theorem newR_at {b:List UInt8} (h:b.length<=65536):newR b=(0,b):=by unfold newR;rw [if_neg (by omega)]
def formRq (q:Req):List UInt8:=[q.op] ++ (bytesF' q.tok ++ (bytesF' q.key ++ (bytesF' q.val ++ (bytesF' q.old ++ (intS q.n ++ (intS q.ten ++ (intS q.keys ++ (intS q.spc ++ ([q.g.rts] ++ (intS q.g.exp ++ intS q.g.ser))))))))))
theorem formRq_len (q:Req):(formRq q).length=66 + q.tok.length + q.key.length + q.val.length + q.old.length:=by
 have hi (n:Int):(intS n).length=8:=putS_length _ _;have hb (l:List UInt8):(bytesF' l).length=4 + l.length:=by unfold bytesF';rw [List.length_append,putS_length]
 simp only [formRq,List.length_append,hi,hb,List.length_cons,List.length_nil];omega
theorem read_rqG {q:Req} {b R1 R2 R3 R4 R5 R6 R7 R8 R9 Ra Rb:List UInt8} (h0:newR b=(0,b)) (e1:b=[q.op] ++ R1) (e2:R1=bytesF' q.tok ++ R2) (e3:R2=bytesF' q.key ++ R3) (e4:R3=bytesF' q.val ++ R4) (e5:R4=bytesF' q.old ++ R5)
 (e6:R5=intS q.n ++ R6) (e7:R6=intS q.ten ++ R7) (e8:R7=intS q.keys ++ R8) (e9:R8=intS q.spc ++ R9) (ea:R9=[q.g.rts] ++ Ra) (eb:Ra=intS q.g.exp ++ Rb) (ec:Rb=intS q.g.ser ++ [])
 (k1:q.tok.length<=65536) (k2:q.key.length<=65536) (k3:q.val.length<=65536) (k4:q.old.length<=65536) (i1:I64 q.n) (i2:I64 q.ten) (i3:I64 q.keys) (i4:I64 q.spc) (i5:I64 q.g.exp) (i6:I64 q.g.ser):readRq b=q/\endR (r2 (rqZ b))=0:=by
 have f1:byteR (0,b)=(q.op,(0,R1)):=by rw [e1];exact cod_byte.fwd _ _ trivial
 have f2:bytesR (0,R1)=(q.tok,(0,R2)):=by rw [e2];exact cod_bytes.fwd _ _ k1
 have f3:bytesR (0,R2)=(q.key,(0,R3)):=by rw [e3];exact cod_bytes.fwd _ _ k2
 have f4:bytesR (0,R3)=(q.val,(0,R4)):=by rw [e4];exact cod_bytes.fwd _ _ k3
 have f5:bytesR (0,R4)=(q.old,(0,R5)):=by rw [e5];exact cod_bytes.fwd _ _ k4
 have f6:intR (0,R5)=(q.n,(0,R6)):=by rw [e6];exact cod_int.fwd _ _ i1
 have f7:intR (0,R6)=(q.ten,(0,R7)):=by rw [e7];exact cod_int.fwd _ _ i2
 have f8:intR (0,R7)=(q.keys,(0,R8)):=by rw [e8];exact cod_int.fwd _ _ i3
 have f9:intR (0,R8)=(q.spc,(0,R9)):=by rw [e9];exact cod_int.fwd _ _ i4
 have fa:byteR (0,R9)=(q.g.rts,(0,Ra)):=by rw [ea];exact cod_byte.fwd _ _ trivial
 have fb:intR (0,Ra)=(q.g.exp,(0,Rb)):=by rw [eb];exact cod_int.fwd _ _ i5
 have fc:intR (0,Rb)=(q.g.ser,(0,[])):=by rw [ec];exact cod_int.fwd _ _ i6
 have g1:rqS b=(0,R5):=by simp only [rqS,h0,f1,f2,f3,f4,f5]
 have g2:r1 (rqS b)=(0,R6):=by simp only [r1,g1,f6]
 have g3:r2 (rqS b)=(0,R7):=by rw [r2,g2,f7]
 have g4:r3 (rqS b)=(0,R8):=by rw [r3,g3,f8]
 have g5:r4 (rqS b)=(0,R9):=by rw [r4,g4,f9]
 have g6:rqZ b=(0,Ra):=by rw [rqZ,g5,fa]
 have g7:r1 (rqZ b)=(0,Rb):=by rw [r1,g6,fb]
 have g8:r2 (rqZ b)=(0,[]):=by rw [r2,g7,fc]
 refine ⟨?_,by rw [g8];rfl⟩;have j1:intR (rqS b)=(q.n,(0,R6)):=by rw [g1,f6]
 have j2:intR (r1 (rqS b))=(q.ten,(0,R7)):=by rw [g2,f7]
 have j3:intR (r2 (rqS b))=(q.keys,(0,R8)):=by rw [g3,f8]
 have j4:intR (r3 (rqS b))=(q.spc,(0,R9)):=by rw [g4,f9]
 have j5:byteR (r4 (rqS b))=(q.g.rts,(0,Ra)):=by rw [g5,fa]
 have j6:intR (rqZ b)=(q.g.exp,(0,Rb)):=by rw [g6,fb]
 have j7:intR (r1 (rqZ b))=(q.g.ser,(0,[])):=by rw [g7,fc]
 simp only [readRq,h0,f1,f2,f3,f4,f5,j1,j2,j3,j4,j5,j6,j7]
theorem parse_rq {q:Req} (hm:mayReq q=true) (hl:(formRq q).length<=1024) (i1:I64 q.n) (i2:I64 q.ten) (i3:I64 q.keys) (i4:I64 q.spc) (i5:I64 q.g.exp) (i6:I64 q.g.ser):parseRq (formRq q)=(q,0):=by
 have hl':=hl;rw [formRq_len] at hl';obtain ⟨h1,h2⟩:=read_rqG (q:=q) (b:=formRq q) (newR_at (by omega)) rfl rfl rfl rfl rfl rfl rfl rfl rfl rfl rfl (List.append_nil _).symm (by omega) (by omega) (by omega) (by omega) i1 i2 i3 i4 i5 i6;unfold parseRq;rw [if_neg (by omega),h1,h2,if_pos ⟨rfl,hm⟩]
theorem AC.res {P:Program} {fn:Nat} {args:List AV} {bs bs2:List Bx} {r r2:AV} (h:AC P fn args bs (fun v bs'=>v=r/\bs'=bs2)) (hr:∀ (w:World) (φ:Fi) (κ:Ka) (R:Nat->Prop) (v:Value) (S:Ct),RV w φ κ R r v S->RV w φ κ R r2 v S):AC P fn args bs (fun v bs'=>v=r2/\bs'=bs2):=
 ⟨h.1,fun w φ κ R vs gs Sa Sb a1 a2 a3 a4 a5 a6 a7 a8=>(h.2 w φ κ R vs gs Sa Sb a1 a2 a3 a4 a5 a6 a7 a8).mono fun ee w' ⟨v,r',bs',gs',Sr,Sb',φ',F,h1,h2,h3,h4⟩=>by
  obtain ⟨rfl,rfl⟩:=h2;exact ⟨v,_,_,gs',Sr,Sb',φ',F,h1,⟨rfl,rfl⟩,hr _ _ _ _ _ _ h3,h4⟩⟩
def st0:St:=⟨0,[],[⟨0,1,sp0,[]⟩],[],[]⟩
theorem stnew_ac:AF 22 [] (.ag (eSt st0)):=by
 have h:AF 22 [] (.ag [I 0,shrA [],.sl (some tTe) 6 [[I 0,I 1,I 0,I 0,.sc (.slice none 0 0),.sc (.slice none 0 0)]],lnkA [],lasA []]):=by
  refine AC.E func22 ntmps22 ?_;intros;iterate 2 refine CP.SL ?_
  repeat' (first|((first|refine wA1 ?_|(refine GA ?_ ?_<;>intro hg)|(refine GV ?_;intros;simp only [nz])|refine wA6 ?_)<;>try refine NQ ?_)|refine wT3 ?_|with_reducible intro Q' hQ'|(refine GC ?_ ?_<;>intro hc)|simp only [laq])
  exact RA0
 refine AC.ro (r:=.ag (eStO st0)) (h.res fun w φ κ R v S hv=>?_) (by simp only [AV.ro,roC,roTe,roS,roLk,roL])
 cases hv with
 | ag h1 h0=>cases h1 with
  | cons a1 a2 a3=>cases a2 with
   | cons b1 b2 b3=>cases b2 with
    | cons c1 c2 c3=>exact .ag (.cons a1 (.cons b1 (.cons (RV.nlsE (.cons (.same (.same (.same (.same (.nl (.nl .nil)))))) .nil) c1) c2 c3) b3) a3) h0
theorem do_may_ac (root:List UInt8) (s:St) (st:Int) (body:List UInt8) (hb:body.length<=100000000) (hs:s.small) (hlk:s.links.length<=999999) (hk:∀ x∈s.lasts,x.rep.keys.length<=1000000) (hm:maySt s=false\/(parseRq body).2≠0):AF 53 [bs none root,.ag (eSt s),I st,bs none body] (.tu [.ag (eSt (doS root s st body).1),.ag (eRp (doS root s st body).2)]):=by
 have h1:=(sown_ac s hs (by omega) hk).ro (r2:=.ag (eSt s)) (by simp only [AV.ro,roC,roTe,roS,roLk,roL]);have h2:=stmay_ac s hs;have h4:=parseRq_ac body hb
 cases hA:maySt s with
 | false=>
  rw [hA] at h2;rw [show doS root s st body=(s,failR 2) from if_pos hA];have h3:=fails_ac 2;clear h4;refine AC.E func53 ntmps53 ?_;intros;iterate 3 refine CP.SL ?_
  repeat' (first|((first|refine wA1 ?_|(refine GA ?_ ?_<;>intro hg)|(refine GV ?_;intros;simp only [nz])|refine wA6 ?_|refine wD1 ?_)<;>try refine NQ ?_)|refine wT6 ?_|with_reducible intro Q' hQ'|(refine GC ?_ ?_<;>intro hc)|simp only [laq])
  exact RA0
 | true=>
  have hq:(parseRq body).2≠0:=by
   rcases hm with h|h
   ·rw [hA] at h;cases h
   ·exact h
  rw [hA] at h2;rw [show doS root s st body=(s,failR 150) by unfold doS;rw [if_neg (by rw [hA];simp),if_neg hq]];have h3:=fails_ac 150;generalize parseRq body=Q at *;have q1:(Q.2 != 0)=true:=by simpa using hq
  refine AC.E func53 ntmps53 ?_;intros;iterate 3 refine CP.SL ?_
  repeat' (first|((first|refine wA1 ?_|(refine GA ?_ ?_<;>intro hg)|(refine GV ?_;intros;simp only [nz])|refine wA6 ?_|refine wD1 ?_)<;>try refine wN0 ?_)|refine wT6 ?_|with_reducible intro Q' hQ'|(refine GC ?_ ?_<;>intro hc)|simp only [laq])
  exact RA0
theorem do_tok_ac (root:List UInt8) (hrt:root.length<=100000) (s:St) (st:Int) (body:List UInt8) (hb:body.length<=100000000) (hs:s.small) (hlk:s.links.length<=999999) (hk:∀ x∈s.lasts,x.rep.keys.length<=1000000) (hm:maySt s=true) (hq:(parseRq body).2=0) (hqs:(parseRq body).1.small) (hql:(parseRq body).1.tok.length<=1000000) (ht:(parT (parseRq body).1.tok).2≠0):AF 53 [bs none root,.ag (eSt s),I st,bs none body] (.tu [.ag (eSt (doS root s st body).1),.ag (eRp (doS root s st body).2)]):=by
 have h1:=(sown_ac s hs (by omega) hk).ro (r2:=.ag (eSt s)) (by simp only [AV.ro,roC,roTe,roS,roLk,roL]);have h2:=stmay_ac s hs;have h4:=parseRq_ac body hb;rw [hm] at h2;rw [hq] at h4;rw [show doS root s st body=(s,failR (parT (parseRq body).1.tok).2) by unfold doS doQ;rw [if_neg (by rw [hm];simp),if_pos hq,if_neg ht]];have h5:=tparse_ac (parseRq body).1.tok hql;generalize (parseRq body).1=q at *;have h3:=fails_ac (parT q.tok).2;generalize parT q.tok=T at *;have q0:((0:Int) != 0)=false:=rfl;have q1:(T.2 != 0)=true:=by simpa using ht
 refine AC.E func53 ntmps53 ?_;intros;iterate 3 refine CP.SL ?_
 repeat' (first|((first|refine wA1 ?_|(refine GA ?_ ?_<;>intro hg)|(refine GV ?_;intros;simp only [nz])|refine wA6 ?_|refine wD1 ?_)<;>try refine wN11 ?_)|refine wT6 ?_|with_reducible intro Q' hQ'|(refine GC ?_ ?_<;>intro hc)|simp only [laq])
 exact RA0
theorem do_chk_ac (root:List UInt8) (hrt:root.length<=100000) (s:St) (st:Int) (body:List UInt8) (hb:body.length<=100000000) (hs:s.small) (hlk:s.links.length<=999999) (hk:∀ x∈s.lasts,x.rep.keys.length<=1000000) (hm:maySt s=true) (hq:(parseRq body).2=0) (hql:(parseRq body).1.tok.length<=1000000) (ht:(parT (parseRq body).1.tok).2=0) (hc:checkT (keyT root (parT (parseRq body).1.tok).1.ten) (parT (parseRq body).1.tok).1≠0):AF 53 [bs none root,.ag (eSt s),I st,bs none body] (.tu [.ag (eSt (doS root s st body).1),.ag (eRp (doS root s st body).2)]):=by
 have h1:=(sown_ac s hs (by omega) hk).ro (r2:=.ag (eSt s)) (by simp only [AV.ro,roC,roTe,roS,roLk,roL]);have h2:=stmay_ac s hs;have h4:=parseRq_ac body hb;rw [hm] at h2;rw [hq] at h4;rw [show doS root s st body=(s,failR (checkT (keyT root (parT (parseRq body).1.tok).1.ten) (parT (parseRq body).1.tok).1)) by unfold doS doQ doT;rw [if_neg (by rw [hm];simp),if_pos hq,if_pos ht,if_neg hc]];have h5:=tparse_ac (parseRq body).1.tok hql;have hf:=parT_fit (parseRq body).1.tok;rw [ht] at h5;generalize (parseRq body).1=q at *;generalize (parT q.tok).1=T at *;have h6:=skey_ac root hrt T.ten;have h7:=check_ac (keyT root T.ten) (by unfold keyT;exact Nat.le_trans (Nat.le_of_eq (hmacS_len _ _)) (by omega)) T hf.1 (by omega);generalize keyT root T.ten=key at *;generalize checkT key T=c at *;have h3:=fails_ac c;have q0:((0:Int) != 0)=false:=rfl;have q1:(c != 0)=true:=by simpa using hc
 refine AC.E func53 ntmps53 ?_;intros;iterate 3 refine CP.SL ?_
 repeat' (first|((first|refine wA1 ?_|(refine GA ?_ ?_<;>intro hg)|(refine GV ?_;intros;simp only [nz])|refine wA6 ?_|refine wD1 ?_)<;>try refine wN11 ?_)|refine wT6 ?_|with_reducible intro Q' hQ'|(refine GC ?_ ?_<;>intro hc)|simp only [laq])
 exact RA0
theorem do_ten_ac (root:List UInt8) (hrt:root.length<=100000) (s:St) (st:Int) (body:List UInt8) (hb:body.length<=100000000) (hs:s.small) (hlk:s.links.length<=999999) (hk:∀ x∈s.lasts,x.rep.keys.length<=1000000) (hm:maySt s=true) (hq:(parseRq body).2=0) (hql:(parseRq body).1.tok.length<=1000000) (ht:(parT (parseRq body).1.tok).2=0) (hc:checkT (keyT root (parT (parseRq body).1.tok).1.ten) (parT (parseRq body).1.tok).1=0) (hn:∀ x∈s.tens,(x.num == (parT (parseRq body).1.tok).1.ten)=false):AF 53 [bs none root,.ag (eSt s),I st,bs none body] (.tu [.ag (eSt (doS root s st body).1),.ag (eRp (doS root s st body).2)]):=by
 have h1:=(sown_ac s hs (by omega) hk).ro (r2:=.ag (eSt s)) (by simp only [AV.ro,roC,roTe,roS,roLk,roL]);have h2:=stmay_ac s hs;have h4:=parseRq_ac body hb;rw [hm] at h2;rw [hq] at h4;rw [show doS root s st body=(s,failR 160) by unfold doS doQ doT;rw [if_neg (by rw [hm];simp),if_pos hq,if_pos ht,if_pos hc,List.findIdx?_eq_none_iff.2 hn]];have h5:=tparse_ac (parseRq body).1.tok hql;have hf:=parT_fit (parseRq body).1.tok;rw [ht] at h5;generalize (parseRq body).1=q at *;generalize (parT q.tok).1=T at *;have h6:=skey_ac root hrt T.ten;have h7:=check_ac (keyT root T.ten) (by unfold keyT;exact Nat.le_trans (Nat.le_of_eq (hmacS_len _ _)) (by omega)) T hf.1 (by omega);rw [hc] at h7;generalize keyT root T.ten=key at *;have h8:=stat_ac s hs.t T.ten;unfold idxT at h8;rw [idxF_no hn] at h8;have h3:=fails_ac 160;have q0:((0:Int) != 0)=false:=rfl;have q5:decide ((-1:Int) < 0)=true:=rfl;refine AC.E func53 ntmps53 ?_;intros;iterate 3 refine CP.SL ?_
 repeat' (first|((first|refine wA1 ?_|(refine GA ?_ ?_<;>intro hg)|(refine GV ?_;intros;simp only [nz])|refine wA6 ?_|refine wD1 ?_)<;>try refine wN26 ?_)|refine wT6 ?_|with_reducible intro Q' hQ'|(refine GC ?_ ?_<;>intro hc)|simp only [laq])
 exact RA0
