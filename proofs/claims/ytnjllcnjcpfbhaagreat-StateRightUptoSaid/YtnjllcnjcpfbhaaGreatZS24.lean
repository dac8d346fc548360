/- Parts. -/
import Derived.Test.YtnjllcnjcpfbhaaGreatZS19
import Derived.Test.YtnjllcnjcpfbhaaGreatZS23
namespace Go.Proofs.YtnjllcnjcpfbhaaGreat
set_option linter.unusedVariables false
set_option linter.unusedSimpArgs false
open Go.RowKit Go.Proofs.Tryz
set_option maxRecDepth 100000
set_option maxHeartbeats 8000000
theorem rise_eq:∀ (b a:List Int),a.Pairwise (· < ·)->b.Pairwise (· < ·)->(∀ x∈a,x∈b)->b.length<=a.length->a=b
 | [],a,_,_,h,_=>by
  cases a with
  | nil=>rfl
  | cons x l=>exact absurd (h x List.mem_cons_self) List.not_mem_nil
 | y :: b,[],_,_,_,hl=>by simp at hl
 | y :: b,x :: a,ha,hb,h,hl=>by
  rw [List.pairwise_cons] at ha hb
  by_cases hxy:x=y
  ·subst hxy
   rw [rise_eq b a ha.2 hb.2 (fun z hz=>by
    rcases List.mem_cons.1 (h z (List.mem_cons_of_mem _ hz)) with e|e
    ·have:=ha.1 z hz;omega
    ·exact e) (by simpa using hl)]
  ·exfalso
   have hyx:y < x:=by
    rcases List.mem_cons.1 (h x List.mem_cons_self) with e|e
    ·exact absurd e hxy
    ·exact hb.1 x e
   have hsub:∀ z∈x :: a,z∈b:=fun z hz=>by
    rcases List.mem_cons.1 (h z hz) with e|e
    ·exfalso;rcases List.mem_cons.1 hz with e2|e2
     ·omega
     ·have:=ha.1 z e2;omega
    ·exact e
   have:=rise_eq b (x :: a) (List.pairwise_cons.2 ha) hb.2 hsub (by simp at hl ⊢;omega);have h2:=congrArg List.length this;simp at h2 hl;omega
section
variable {α:Type} {key:α->Int} {ok:Bool->α->Bool}
theorem ascB_all:∀ {l:List α} {o:Option Int},ascB key geI ok o l=true->∀ x∈l,∃ b,ok b x=true
 | [],_,_=>fun x hx=>by cases hx
 | a :: l,o,h=>fun x hx=>by
  simp only [ascB,Bool.and_eq_true] at h;rcases List.mem_cons.1 hx with rfl|hx
  ·exact ⟨_,h.1.1⟩
  ·exact ascB_all h.2 x hx
theorem ascB_gt:∀ {l:List α} {k:Int},ascB key geI ok (some k) l=true->∀ x∈l,k < key x/\ok false x=true
 | [],_,_=>fun x hx=>by cases hx
 | a :: l,k,h=>fun x hx=>by
  simp only [ascB,Bool.and_eq_true,geI] at h;have h1:k < key a:=by have:=h.1.2;simpa using this
  rcases List.mem_cons.1 hx with rfl|hx
  ·exact ⟨h1,h.1.1⟩
  ·have:=ascB_gt h.2 x hx;exact ⟨by omega,this.2⟩
theorem ascB_rise:∀ {l:List α} {o:Option Int},ascB key geI ok o l=true->(l.map key).Pairwise (· < ·)
 | [],_,_=>List.Pairwise.nil
 | a :: l,o,h=>by
  simp only [ascB,Bool.and_eq_true] at h;rw [List.map_cons,List.pairwise_cons]
  exact ⟨fun z hz=>by
   obtain ⟨x,hx,rfl⟩:=List.mem_map.1 hz;exact (ascB_gt h.2 x hx).1,ascB_rise h.2⟩
end
theorem maySt_of {s:St} (h:maySt s=true):clkS s.pos=true/\mayQ s.sh=true/\mayL' s.lasts=true/\s.tens.length=s.sh.length + 1/\ascT s.sh s.tens=true:=by
 simp only [maySt,Bool.and_eq_true,decide_eq_true_eq] at h;exact ⟨h.1.1.1,h.1.1.2,h.1.2,h.2.1,h.2.2⟩
theorem sh3_of {a b c x y z:Int} (h:sh3 a b c x y z=true):a=x/\b=y/\c=z:=by
 simpa [sh3,eqVs,eqV1,and_assoc] using h
theorem tenS_of {sh:List Shr} {b:Bool} {t:Ten} (h:tenS sh b t=true):clkS t.ser=true/\mayR t.rev=true/\maySp t.spc=true:=by
 simp only [tenS,Bool.and_eq_true] at h;exact ⟨h.1.1.1,h.1.1.2,h.1.2⟩
theorem ofQ_mem {l:List Shr} {t:Int} (h:(ofQ l t).2=true):∃ y∈l,y.ten=t:=by
 unfold ofQ at h;split at h
 ·next x hx=>exact ⟨x,List.mem_of_find?_eq_some hx,by simpa using List.find?_some hx⟩
 ·cases h
theorem maySt_ten {s:St} (h:maySt s=true) {y:Shr} (hy:y∈s.sh):∃ t∈s.tens,t.num=y.ten:=by
 obtain ⟨_,h2,_,h4,h5⟩:=maySt_of h;simp only [mayQ,ascQ,Bool.and_eq_true] at h2;have hq:=ascB_rise (key:=Shr.ten) (ok:=fun _=>shrS) h2.1.2
 cases ht:s.tens with
 | nil=>rw [ht] at h4;simp at h4
 | cons t0 rest=>
  rw [ht] at h4 h5;unfold ascT at h5;simp only [ascB,Bool.and_eq_true] at h5;have hg:=fun x hx=>(ascB_gt h5.2 x hx).2
  have hr:=ascB_rise (key:=Ten.num) (ok:=tenS s.sh) h5.2
  have e:=rise_eq (s.sh.map Shr.ten) (rest.map Ten.num) hr hq (fun z hz=>by
   obtain ⟨x,hx,rfl⟩:=List.mem_map.1 hz;have:=hg x hx;simp only [tenS,Bool.and_eq_true] at this;obtain ⟨y,hy,e⟩:=ofQ_mem this.2.1;exact List.mem_map.2 ⟨y,hy,e⟩) (by simp at h4 ⊢;omega)
  have hm:y.ten∈rest.map Ten.num:=by rw [e];exact List.mem_map.2 ⟨y,hy,rfl⟩
  obtain ⟨x,hx,e⟩:=List.mem_map.1 hm;exact ⟨x,List.mem_cons_of_mem _ hx,e⟩
theorem rsz_found {s:St} {x:Shr} (h:maySt s=true) (hr:(rszQ s.sh x).2=0):∃ t∈s.tens,t.num=x.ten:=by
 unfold rszQ at hr;split at hr
 ·cases hr
 ·split at hr
  ·cases hr
  ·next hi=>
   rcases idxF_cases (fun y:Shr=>y.ten == x.ten) s.sh with ⟨e,_⟩|⟨n,y,_,hy,hp,_⟩
   ·exact absurd (by rw [e];decide) hi
   ·obtain ⟨t,ht,e⟩:=maySt_ten h (List.mem_of_getElem? hy);exact ⟨t,ht,by rw [e];simpa using hp⟩
theorem maySt_tens {s:St} (h:maySt s=true):∀ t∈s.tens,clkS t.ser=true/\mayR t.rev=true/\maySp t.spc=true:=fun t ht=>by
 obtain ⟨b,hb⟩:=ascB_all (key:=Ten.num) (ok:=tenS s.sh) (maySt_of h).2.2.2.2 t ht;exact tenS_of hb
theorem maySt_len {s:St} (h:maySt s=true):s.sh.length<=8/\s.tens.length<=9:=by
 obtain ⟨_,h2,_,h4,_⟩:=maySt_of h;simp only [mayQ,ascQ,Bool.and_eq_true,decide_eq_true_eq] at h2;exact ⟨h2.1.1,by omega⟩
theorem maySp_len {s:Spc} (h:maySp s=true):s.prs.length<=64/\∀ p∈s.prs,p.key.length<=24/\p.val.length<=64:=by
 simp only [maySp,limS,ascP,Bool.and_eq_true,decide_eq_true_eq] at h;refine ⟨by omega,fun p hp=>?_⟩;have:=asc_all h.1.2 p hp;simp only [prS,Bool.and_eq_true,decide_eq_true_eq] at this;omega
theorem maySt_small {s:St} (h:maySt s=true):∀ t∈s.tens,t.small:=fun t ht=>by
 obtain ⟨_,h2,h3⟩:=maySt_tens h t ht;have h4:=mayR_len h2;obtain ⟨h5,h6⟩:=maySp_len h3;exact ⟨by omega,by omega,fun p hp=>by have:=h6 p hp;omega⟩
section
variable {α:Type} {key:α->Int} {ok:Bool->α->Bool}
theorem ascB_mk:∀ {l:List α} {k:Int},(∀ x∈l,k < key x/\ok false x=true)->(l.map key).Pairwise (· < ·)->ascB key geI ok (some k) l=true
 | [],_,_,_=>rfl
 | a :: l,k,h,hp=>by
  rw [List.map_cons,List.pairwise_cons] at hp;have ha:=h a List.mem_cons_self;simp only [ascB,Bool.and_eq_true,geI];exact ⟨⟨ha.2,by simpa using ha.1⟩,ascB_mk (fun x hx=>⟨hp.1 _ (List.mem_map_of_mem hx),(h x (List.mem_cons_of_mem _ hx)).2⟩) hp.2⟩
theorem ascN_mk {a:α} {l:List α} (h1:ok true a=true) (h2:∀ x∈l,ok false x=true) (hp:((a :: l).map key).Pairwise (· < ·)):ascB key geI ok none (a :: l)=true:=by
 rw [List.map_cons,List.pairwise_cons] at hp;simp only [ascB,Bool.and_eq_true];exact ⟨⟨h1,trivial⟩,ascB_mk (fun x hx=>⟨hp.1 _ (List.mem_map_of_mem hx),h2 x hx⟩) hp.2⟩
theorem ascN_of {a:α} {l:List α} (h:ascB key geI ok none (a :: l)=true):ok true a=true/\(∀ x∈l,key a < key x/\ok false x=true)/\((a :: l).map key).Pairwise (· < ·):=by
 have hr:=ascB_rise h;simp only [ascB,Bool.and_eq_true] at h;exact ⟨h.1.1,ascB_gt h.2,hr⟩
theorem asc_rise {ok:α->Bool} {l:List α}:asc key geI ok none l=true↔(∀ x∈l,ok x=true)/\(l.map key).Pairwise (· < ·):=by
 cases l with
 | nil=>exact ⟨fun _=>⟨fun x hx=>(by cases hx),List.Pairwise.nil⟩,fun _=>rfl⟩
 | cons a l=>
  constructor
  ·intro h;obtain ⟨h1,h2,h3⟩:=ascN_of (ok:=fun _=>ok) h;exact ⟨fun x hx=>(by rcases List.mem_cons.1 hx with rfl|hx;exact h1;exact (h2 x hx).2),h3⟩
  ·rintro ⟨h1,h2⟩;exact ascN_mk (ok:=fun _=>ok) (h1 a List.mem_cons_self) (fun x hx=>h1 x (List.mem_cons_of_mem _ hx)) h2
theorem ascB_set {t':α}:∀ {l:List α} {o:Option Int} {n:Nat} {t:α},l[n]? = some t->key t'=key t->(∀ b,ok b t=true->ok b t'=true)->ascB key geI ok o l=true->ascB key geI ok o (l.set n t')=true
 | [],_,_,_,h,_,_,_=>by simp at h
 | a :: l,o,0,t,h,hk,ho,hm=>by
  simp at h;subst h;simp only [ascB,Bool.and_eq_true,List.set_cons_zero] at hm ⊢;rw [hk];exact ⟨⟨ho _ hm.1.1,hm.1.2⟩,hm.2⟩
 | a :: l,o,n + 1,t,h,hk,ho,hm=>by
  simp only [List.getElem?_cons_succ] at h;simp only [ascB,Bool.and_eq_true,List.set_cons_succ] at hm ⊢;exact ⟨hm.1,ascB_set h hk ho hm.2⟩
end
section
variable {α:Type}
theorem insL_nil (p:α->Bool) (x:α):insL p x []=[x]:=rfl
theorem insL_cons (p:α->Bool) (x y:α) (l:List α):insL p x (y :: l)=if p y=true then x :: y :: l else y :: insL p x l:=by
 unfold insL insI;rw [List.findIdx?_cons]
 cases h:p y with
 | true=>simp
 | false=>
  simp only [Bool.false_eq_true,if_false]
  cases h2:l.findIdx? p with
  | none=>simp
  | some n=>simp
theorem insL_has {p:α->Bool} {x y:α}:∀ {l:List α},y∈insL p x l↔y=x\/y∈l
 | []=>by rw [insL_nil];simp
 | z :: l=>by
  rw [insL_cons];split
  ·simp
  ·rw [List.mem_cons,insL_has,List.mem_cons];constructor
   ·rintro (h|h|h)
    ·exact .inr (.inl h)
    ·exact .inl h
    ·exact .inr (.inr h)
   ·rintro (h|h|h)
    ·exact .inr (.inl h)
    ·exact .inl h
    ·exact .inr (.inr h)
theorem insL_len (p:α->Bool) (x:α):∀ (l:List α),(insL p x l).length=l.length + 1
 | []=>rfl
 | z :: l=>by
  rw [insL_cons];split
  ·rfl
  ·rw [List.length_cons,insL_len,List.length_cons]
theorem insL_rise {key:α->Int} {x:α}:∀ {l:List α},(l.map key).Pairwise (· < ·)->(∀ y∈l,key y≠key x)->((insL (fun y=>decide (key x < key y)) x l).map key).Pairwise (· < ·)
 | [],_,_=>by rw [insL_nil];exact List.pairwise_singleton ..
 | z :: l,h,hn=>by
  rw [List.map_cons,List.pairwise_cons] at h;rw [insL_cons];split
  ·next hp=>
   have hp:key x < key z:=by simpa using hp
   rw [List.map_cons,List.map_cons,List.pairwise_cons,List.pairwise_cons];refine ⟨fun w hw=>?_,h⟩;rcases List.mem_cons.1 hw with rfl|hw
   ·exact hp
   ·have:=h.1 w hw;omega
  ·next hp=>
   have hp:¬ key x < key z:=by simpa using hp
   have hz:=hn z List.mem_cons_self;rw [List.map_cons,List.pairwise_cons];refine ⟨fun w hw=>?_,insL_rise h.2 fun y hy=>hn y (List.mem_cons_of_mem _ hy)⟩;obtain ⟨y,hy,rfl⟩:=List.mem_map.1 hw;rcases insL_has.1 hy with rfl|hy
   ·omega
   ·exact h.1 _ (List.mem_map_of_mem hy)
end
theorem rise_len:∀ {l:List Int} {a b:Int},l.Pairwise (· < ·)->(∀ x∈l,a<=x/\x<=b)->(l.length:Int)<=max 0 (b - a + 1)
 | [],_,_,_,_=>by simp;omega
 | x :: l,a,b,h,hb=>by
  rw [List.pairwise_cons] at h;have hx:=hb x List.mem_cons_self;have:=rise_len (a:=x + 1) (b:=b) h.2 fun y hy=>⟨by have:=h.1 y hy;omega,(hb y (List.mem_cons_of_mem _ hy)).2⟩
  rw [List.length_cons];omega
theorem mrg_mem:∀ (a b:List Int) (z:Int),z∈mrg a b↔z∈a\/z∈b
 | [],b,z=>by rw [mrg_nil_l];simp
 | a :: l,[],z=>by rw [mrg_nil_r];simp
 | x :: a,y :: b,z=>by
  rw [mrg_cons];split
  ·rw [List.mem_cons,mrg_mem a (y :: b) z];simp only [List.mem_cons];grind
  ·split
   ·rw [List.mem_cons,mrg_mem (x :: a) b z];simp only [List.mem_cons];grind
   ·have:x=y:=by omega
    rw [mrg_mem a (y :: b) z];simp only [List.mem_cons];grind
termination_by a b=>a.length + b.length
theorem mrg_rise:∀ (a b:List Int),a.Pairwise (· < ·)->b.Pairwise (· < ·)->(mrg a b).Pairwise (· < ·)
 | [],b,_,hb=>by rw [mrg_nil_l];exact hb
 | a :: l,[],ha,_=>by rw [mrg_nil_r];exact ha
 | x :: a,y :: b,ha,hb=>by
  have ha':=List.pairwise_cons.1 ha;have hb':=List.pairwise_cons.1 hb;rw [mrg_cons];split
  ·refine List.pairwise_cons.2 ⟨fun z hz=>?_,mrg_rise a (y :: b) ha'.2 hb⟩;rcases (mrg_mem ..).1 hz with h|h
   ·exact ha'.1 z h
   ·rcases List.mem_cons.1 h with rfl|h
    ·assumption
    ·have:=hb'.1 z h;omega
  ·split
   ·refine List.pairwise_cons.2 ⟨fun z hz=>?_,mrg_rise (x :: a) b ha hb'.2⟩;rcases (mrg_mem ..).1 hz with h|h
    ·rcases List.mem_cons.1 h with rfl|h
     ·assumption
     ·have:=ha'.1 z h;omega
    ·exact hb'.1 z h
   ·exact mrg_rise a (y :: b) ha'.2 hb
termination_by a b=>a.length + b.length
