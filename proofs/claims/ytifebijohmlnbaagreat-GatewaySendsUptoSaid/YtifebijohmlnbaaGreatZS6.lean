/-
  Texts joined: Br, BrA, P1, P2, P3, P4, Df, G3, Str, Y1, Y2, Ct, Y3, Ru, Y4, Y5, Eo, C1, C9, Cg1, Cg3, Y9, Y10, Y11, Y6, Y7, Y12, Q8, Tk, G2, G4, G5, B1, Y13, Q9, Ia.
-/
import Derived.Test.YtifebijohmlnbaaGreatZS1
import Derived.Test.YtifebijohmlnbaaGreatZS2
import Derived.Test.YtifebijohmlnbaaGreatZS3
import Derived.Test.YtifebijohmlnbaaGreatZS4
import Derived.Test.YtifebijohmlnbaaGreatZS5
import Derived.Test.YtifebijohmlnbaaGreatRows
import Derived.OpenShut
import Derived.Carry
import Derived.ChangeArms
import Derived.ChangeSame
import Derived.ChangeMaps5
import Derived.JoinedCond
import Derived.Deep.Slices
import Derived.Laws.BytesString
import Derived.Laws.Cells
import Derived.Lib.SliceRun
namespace Go.Proofs.YtifebijohmlnbaaGreat
set_option linter.unusedVariables false
set_option linter.unusedSimpArgs false
open Go.RowKit
set_option maxRecDepth 100000
set_option maxHeartbeats 8000000
section
open Go.RowKit Go.ChangeShapes Go.WideShapes Go.ChangeAt Go.Deep
/-! bulk -/
theorem bulk_one {H:Type} (d:DataW H):1≤Rows.uptoBulk d:=by
 cases d with
 | lit l=>cases l<;>simp [Rows.uptoBulk]
 | _=>simp [Rows.uptoBulk]
theorem bulk_part {H:Type} {d:DataW H} {l:List (DataW H)} (h:d∈l):Rows.uptoBulk d≤Rows.uptoBulkAll l:=by
 induction l with
 | nil=>cases h
 | cons x r ih=>
  simp only [Rows.uptoBulkAll]
  cases List.mem_cons.1 h with
  | inl e=>subst e;omega
  | inr e=>have:=ih e;omega
theorem bulk_length {H:Type} (l:List (DataW H)):l.length≤Rows.uptoBulkAll l:=by
 induction l with
 | nil=>simp [Rows.uptoBulkAll]
 | cons x r ih=>have:=bulk_one x;simp only [Rows.uptoBulkAll,List.length_cons];omega
/-- what reads as data of a type is k cells of my data; N: its bulk -/
def OA (P:Program) (t:TypeId) (k:Nat) {α:Type} (ok:Nat→α→Prop) (e:α→List AV):Prop:=
 P.cellsOf t=k∧(∀ m n d,m≤n→ok m d→ok n d)∧∀ {H:Type} {enc:TypeId×Value→H} {w:World} {base:Nat} {fuel:Nat} {cs:List Value} {x:DataW H×List MemPlace},
  DataW.trod enc P w base (fun _=>true) true fuel t cs=some x→∃ d:α,ok (Rows.uptoBulk x.1) d∧(∀ φ κ,RC w φ κ (fun b=>b < w.heap.size) (e d) cs Ct.z)∧(∀ u∈cs,u.oneCell'=true)∧(∀ a∈e d,a.leaf=true)∧cs.length=k
section
variable {P:Program} {t e:TypeId} {α β:Type} {ok:Nat→α→Prop} {k:Nat} {en:α→List AV}
theorem OA.map (h:OA P t k ok en) (f:α→β) {ok':Nat→β→Prop} {en':β→List AV} (hm:∀ m n d,m≤n→ok' m d→ok' n d) (h1:∀ n a,ok n a→ok' n (f a)) (h2:∀ a,en' (f a)=en a):OA P t k ok' en':=
 ⟨h.1,hm,fun hx=>by
  obtain ⟨d,a,b,c⟩:=h.2.2 hx;exact ⟨f d,h1 _ _ a,by rw [h2];exact b,by rw [h2];exact c⟩⟩
theorem OA.wmap (h:OA P t k ok en) (f:α→β) {ok':Nat→β→Prop} {en':β→List AV} (hm:∀ m n d,m≤n→ok' m d→ok' n d) (h1:∀ n a,ok n a→ok' n (f a)) (h2:∀ n a,ok n a→en' (f a)=en a):OA P t k ok' en':=
 ⟨h.1,hm,fun hx=>by
  obtain ⟨d,a,b,c⟩:=h.2.2 hx;exact ⟨f d,h1 _ _ a,by rw [h2 _ _ a];exact b,by rw [h2 _ _ a];exact c⟩⟩
theorem RC.one_ {w:World} {φ:Fi} {κ:Ka} {R:Nat→Prop} {a:AV} {v:Value} (h:RV w φ κ R a v Ct.z):RC w φ κ R [a] [v] Ct.z:=.cons (S:=Ct.z) (T:=Ct.z) h .nil fun _=>rfl
theorem oa_int {κ:IntKind} (ht:P.underlying t=some (.int κ)) (hc:P.cellsOf t=1):OA P t 1 (fun _ (n:Int)=>(Lit.int κ n).wf=true) (fun n=>[.sc (.int κ n)]):=
 ⟨hc,fun _ _ _ _ h=>h,fun h=>by
  obtain ⟨n,rfl,_,hw⟩:=DataW.trod_int ht h;exact ⟨n,hw,fun _ _=>RC.one_ (.sc rfl),fun u hu=>by simp at hu;subst hu;rfl,fun a ha=>by simp at ha;subst ha;rfl,rfl⟩⟩
theorem oa_bool (ht:P.underlying t=some .bool) (hc:P.cellsOf t=1):OA P t 1 (fun _ (_:Bool)=>True) (fun n=>[.sc (.bool n)]):=
 ⟨hc,fun _ _ _ _ h=>h,fun h=>by
  obtain ⟨n,rfl,_⟩:=DataW.trod_bool ht h;exact ⟨n,trivial,fun _ _=>RC.one_ (.sc rfl),fun u hu=>by simp at hu;subst hu;rfl,fun a ha=>by simp at ha;subst ha;rfl,rfl⟩⟩
theorem RE.of_rows {w:World} {φ:Fi} {κ:Ka} {R:Nat→Prop} {k:Nat} {en:α→List AV} {l:List α} (css:Nat→List Value) (h:∀ i x,l[i]? = some x→RC w φ κ R (en x) (css i) Ct.z∧(∀ u∈css i,u.oneCell'=true)∧(∀ a∈en x,a.leaf=true)∧(css i).length=k) :
 RE w φ κ R k (l.map en) ((List.range l.length).flatMap css) Ct.z:=by
 induction l generalizing css with
 | nil=>exact .nil
 | cons x l ih=>
  have h0:=h 0 x rfl;have h1:=ih (fun i=>css (i + 1)) fun i y hy=>h (i + 1) y (by simpa using hy)
  rw [List.length_cons,List.range_succ_eq_map,List.flatMap_cons,List.flatMap_map];exact .cons (S:=Ct.z) (T:=Ct.z) h0.1 h0.2.2.2 ⟨h0.2.1,h0.2.2.1⟩ h1 fun _=>rfl
theorem flat_at {css:Nat→List Value} {k n:Nat} (h:∀ i,i < n→(css i).length=k):∀ {j:Nat} {u:Value},((List.range n).flatMap css)[j]? = some u→∃ i r,i < n∧j=i * k + r∧(css i)[r]? = some u:=by
 induction n generalizing css with
 | zero=>intro j u hj;simp at hj
 | succ n ih=>
  intro j u hj;rw [List.range_succ_eq_map,List.flatMap_cons,List.flatMap_map] at hj;have h0:=h 0 (by omega)
  by_cases hjk:j < k
  ·rw [List.getElem?_append_left (by omega)] at hj;exact ⟨0,j,by omega,by omega,hj⟩
  ·rw [List.getElem?_append_right (by omega)] at hj;obtain ⟨i,r,hi,hr,hu⟩:=ih (css:=fun i=>css (i + 1)) (fun i hi=>h (i + 1) (by omega)) hj;refine ⟨i + 1,r,by omega,?_,hu⟩;rw [Nat.add_mul];omega
theorem spot_none {w:World} {a:Addr} {u:Value} (h:w.cell? (a.add 0)=some u):a.spot=none:=by
 obtain ⟨ab,ao,asp⟩:=a
 cases hsp:asp with
 | none=>rfl
 | some s=>
  rw [hsp] at h;simp [Addr.add,World.cell?] at h;split at h<;>simp at h
theorem oa_slice (hk:0 < k) (ht:P.underlying t=some (.slice e)) (hc:P.cellsOf t=1) (hE:OA P e k ok en):OA P t 1 (fun N (l:List α)=>(∀ x∈l,ok N x)∧l.length < N) (fun l=>[.sl none k (l.map en)]):=by
 refine ⟨hc,fun m n d h k=>⟨fun x hx=>hE.2.1 _ _ _ h (k.1 x hx),Nat.lt_of_lt_of_le k.2 h⟩,?_⟩;intro H enc w base fuel cs x h;rcases open_slice ht h with ⟨rfl,rfl⟩|⟨a,len,cap,m,n,D,Pl,rfl,hb,hl,hm,hmm,hx,hi⟩
 ·exact ⟨[],⟨fun x hx=>by simp at hx,by simp [Rows.uptoBulk]⟩,fun _ _=>RC.one_ .ni,fun u hu=>by simp at hu;subst hu;rfl,fun a ha=>by simp at ha;subst ha;rfl,rfl⟩
 ·obtain rfl:m=cap:=by simpa using hmm
  clear hmm
  have hbulk:∀ i,i < len→Rows.uptoBulk (D i)≤Rows.uptoBulk x.1:=by
   intro i hi;rw [hx];have:=bulk_part (d:=D i) (l:=(List.range len).map D) (List.mem_map.2 ⟨i,List.mem_range.2 hi,rfl⟩);simp only [Rows.uptoBulk];omega
  have hlenb:len < Rows.uptoBulk x.1:=by
   rw [hx];have:=bulk_length ((List.range len).map D);simp only [Rows.uptoBulk];simp only [List.length_map,List.length_range] at this;omega
  have hall:∀ i,i < len→∃ (d:α) (cs':List Value),(ok (Rows.uptoBulk x.1) d∧(∀ φ κ,RC w φ κ (fun b=>b < w.heap.size) (en d) cs' Ct.z)∧(∀ u∈cs',u.oneCell'=true)∧(∀ a∈en d,a.leaf=true)∧cs'.length=k)∧∀ j u,cs'[j]? = some u→w.cell? ((a.add (i * k)).add j)=some u:=by
   intro i hil;obtain ⟨cs',hcs,htr⟩:=hi i (by omega);obtain ⟨d,hd0,hd⟩:=hE.2.2 htr;rw [hE.1] at hcs;obtain ⟨_,hlen,hat⟩:=World.cells?_some hcs;exact ⟨d,cs',⟨hE.2.1 _ _ _ (hbulk i hil) hd0,hd⟩,fun j u hu=>(hat j (by have:=(List.getElem?_eq_some_iff.1 hu).1;omega)).trans hu⟩
  have hsp0:0 < m→a.spot=none:=by
   intro h0;obtain ⟨cs',hcs,_⟩:=hi 0 h0;rw [hE.1] at hcs;obtain ⟨_,hlen,hat⟩:=World.cells?_some hcs;have hz:=hat 0 (by omega);rw [List.getElem?_eq_getElem (by omega)] at hz;have e0:a.add (0 * k)=a:=by simp [Addr.add]
   rw [e0] at hz;exact spot_none hz
  have hex:∃ (l:List α) (css:Nat→List Value),l.length=len∧∀ i y,l[i]? = some y→(ok (Rows.uptoBulk x.1) y∧(∀ φ κ,RC w φ κ (fun b=>b < w.heap.size) (en y) (css i) Ct.z)∧(∀ u∈css i,u.oneCell'=true)∧(∀ a∈en y,a.leaf=true)∧(css i).length=k)∧∀ j u,(css i)[j]? = some u→w.cell? ((a.add (i * k)).add j)=some u:=by
   clear hi hbulk hlenb h hx
   revert hall
   clear hl
   induction len with
   | zero=>exact fun _=>⟨[],fun _=>[],rfl,fun i x h=>by simp at h⟩
   | succ q ih=>
    intro hall;obtain ⟨l,css,hl,hq⟩:=ih (fun i hi=>hall i (by omega));obtain ⟨d,cs',hd,hcs⟩:=hall q (by omega);refine ⟨l ++ [d],fun i=>if i=q then cs' else css i,by simp [hl],fun i x hx=>?_⟩
    by_cases hik:i < q
    ·rw [List.getElem?_append_left (by omega)] at hx;simp only [show i≠q by omega,if_false];exact hq i x hx
    ·have hik':i=q:=by have:=(List.getElem?_eq_some_iff.1 hx).1;simp at this;omega
     subst hik';rw [List.getElem?_append_right (by omega),hl] at hx;simp at hx;subst hx;simp only [if_true];exact ⟨hd,hcs⟩
  obtain ⟨l,css,hll,hq⟩:=hex;refine ⟨l,⟨fun y hy=>?_,by omega⟩,fun φ κ=>?_,fun u hu=>by simp at hu;subst hu;rfl,fun a ha=>by simp at ha;subst ha;rfl,rfl⟩
  ·obtain ⟨i,hi,rfl⟩:=List.mem_iff_getElem.1 hy;exact (hq i _ (List.getElem?_eq_getElem hi)).1.1
  ·refine RC.one_ ?_;subst hll
   by_cases h0:m=0
   ·subst h0;obtain rfl:l=[]:=List.eq_nil_of_length_eq_zero (by omega);exact .ne
   ·obtain ⟨ab,ao,asp⟩:=a;have hspn:=hsp0 (by omega);simp only at hspn;subst hspn
    have hflat:∀ j u,((List.range l.length).flatMap css)[j]? = some u→w.cell? ⟨ab,ao + j,none⟩=some u:=by
     intro j u hj;obtain ⟨i,r,hi,rfl,hu⟩:=flat_at (k:=k) (fun i hi=>(hq i _ (List.getElem?_eq_getElem hi)).1.2.2.2.2) hj;have:=(hq i _ (List.getElem?_eq_getElem hi)).2 r u hu
     have e1:(Addr.add (Addr.add ⟨ab,ao,none⟩ (i * k)) r)=⟨ab,ao + (i * k + r),none⟩:=by
      unfold Addr.add;split<;>split<;>simp_all [Nat.add_assoc]
     rw [e1] at this;exact this
    have hE':RE w φ κ (fun b=>b < w.heap.size) k (l.map en) ((List.range l.length).flatMap css) Ct.z:=RE.of_rows css fun i x hx=>⟨(hq i x hx).1.2.1 φ κ,(hq i x hx).1.2.2⟩
    have:=RV.ro (c:=m) (b:=ab) (o:=ao) hE' (by simp;omega) hm (fun hne=>by
     have hl0:0 < l.length:=by cases l with
      | nil=>exact absurd rfl hne
      | cons _ _=>simp
     have hc0:=(hq 0 _ (List.getElem?_eq_getElem hl0)).1.2.2.2.2;have hz:=(hq 0 _ (List.getElem?_eq_getElem hl0)).2 0 _ (List.getElem?_eq_getElem (by omega));simp only [Addr.add,Nat.zero_mul,if_true,World.cell?] at hz
     cases hh:w.heap[ab]? with
     | none=>simp [hh] at hz
     | some o=>exact (Array.getElem?_eq_some_iff.1 hh).1) hflat
    simpa using this
/-- fields from an offset on -/
def OFs (P:Program) (fs:List Field) (off k:Nat) {α:Type} (ok:Nat→α→Prop) (e:α→List AV):Prop:=
 (∀ m n d,m≤n→ok m d→ok n d)∧∀ {H:Type} {enc:TypeId×Value→H} {w:World} {base:Nat} {cs:List Value} {N:Nat},
   (∀ f∈fs,∃ n y,DataW.trod enc P w base (fun _=>true) true n f.type ((cs.drop f.offset).take (P.cellsOf f.type))=some y∧Rows.uptoBulk y.1≤N)→off + k≤cs.length →
   ∃ d:α,ok N d∧(∀ φ κ,RC w φ κ (fun b=>b < w.heap.size) (e d) ((cs.drop off).take k) Ct.z)∧(∀ u∈(cs.drop off).take k,u.oneCell'=true)∧(∀ a∈e d,a.leaf=true)
theorem of_nil {off:Nat}:OFs P [] off 0 (fun _ (_:Unit)=>True) (fun _=>[]):=
 ⟨fun _ _ _ _ _=>trivial,fun {H enc w base cs N} _ _=>⟨(),trivial,fun φ κ=>by simp;exact .nil,fun u hu=>by simp at hu,fun a ha=>by cases ha⟩⟩
theorem of_cons {f:Field} {fs:List Field} {off k2:Nat} {ok2:Nat→β→Prop} {en2:β→List AV} (hoff:f.offset=off) (h1:OA P f.type k ok en) (h2:OFs P fs (off + k) k2 ok2 en2) :
 OFs P (f :: fs) off (k + k2) (fun N (d:α×β)=>ok N d.1∧ok2 N d.2) (fun d=>en d.1 ++ en2 d.2):=
 ⟨fun m n d h k=>⟨h1.2.1 _ _ _ h k.1,h2.1 _ _ _ h k.2⟩,fun {H enc w base cs N} hf hl=>by
  subst hoff;obtain ⟨n,y,hy,hyb⟩:=hf f (by simp);rw [h1.1] at hy;obtain ⟨a,a1,a2,a3,a4,a5⟩:=h1.2.2 hy;obtain ⟨b,b1,b2,b3,b4⟩:=h2.2 (cs:=cs) (N:=N) (fun g hg=>hf g (by simp [hg])) (by omega)
  have e0:(cs.drop f.offset).take (k + k2)=(cs.drop f.offset).take k ++ (cs.drop (f.offset + k)).take k2:=by
   rw [List.take_add,List.drop_drop]
  refine ⟨(a,b),⟨h1.2.1 _ _ _ hyb a1,b1⟩,fun φ κ=>?_,fun u hu=>?_,fun x hx=>?_⟩
  ·rw [e0];exact (a2 φ κ).append (b2 φ κ) fun _=>rfl
  ·rw [e0] at hu;exact (List.mem_append.1 hu).elim (a3 u) (b3 u)
  ·exact (List.mem_append.1 hx).elim (a4 x) (b4 x)⟩
theorem oa_struct {fs:Array Field} (ht:P.underlying t=some (.struct fs)) (hc:P.cellsOf t=k) (h:OFs P fs.toList 0 k ok en):OA P t k ok en:=
 ⟨hc,h.1,fun {H enc w base fuel cs x} hx=>by
  obtain ⟨xs,n,_,hxx,hl,hn,hg⟩:=DataW.trod_struct ht hx
  obtain ⟨d,d1,d2,d3,d4⟩:=h.2 (cs:=cs) (N:=Rows.uptoBulk x.1) (fun f hf=>by
   obtain ⟨i,hi,rfl⟩:=List.mem_iff_getElem.1 hf;have hi':i < fs.size:=by simpa using hi
   have:=hg i (fs.toList[i]) (by simp [hi']);rw [List.getElem?_eq_getElem (by omega)] at this;refine ⟨n,_,this,?_⟩;have hb:=bulk_part (d:=(xs[i]'(by omega)).1) (l:=xs.map (·.1)) (List.mem_map.2 ⟨_,List.getElem_mem _,rfl⟩);rw [hxx];simp only [Rows.uptoBulk];omega) (by omega)
  rw [hc] at hl;have e0:(cs.drop 0).take k=cs:=by rw [List.drop_zero];exact List.take_of_length_le (by omega)
  rw [e0] at d2 d3;exact ⟨d,d1,d2,d3,d4,hl⟩⟩
/-! arguments -/
variable {H:Type} {enc:TypeId×Value→H} {w:World} {base b0:Nat} {r:Reach} {v:Value} {d:DataW H} {p:List MemPlace}
theorem arg_1 {f:α→AV} (hE:OA P t 1 ok (fun x=>[f x])) (hv:v.cells.toList=[v]) (h:DataW.Trod enc P w base (fun _=>true) true t v d p) :
 ∃ x,ok (Rows.uptoBulk d) x∧∀ φ κ,RV w φ κ (fun b=>b < w.heap.size) (f x) v Ct.z:=by
 obtain ⟨fuel,hf⟩:=h;obtain ⟨x,x1,x2,x3,_⟩:=hE.2.2 hf;refine ⟨x,x1,fun φ κ=>?_⟩;have h1:=x2 φ κ;rw [hv] at h1
 cases h1 with
 | cons a b c=>obtain ⟨rfl,rfl⟩:=Ct.split c;exact a
theorem cells_slice (ht:P.underlying t=some (.slice e)) (hv:Value.okWide P w r b0 t v):v.cells.toList=[v]:=by
 unfold Value.okWide at hv;rw [ht] at hv
 cases v with
 | agg cs=>simp only [Cell.okWide,ht] at hv;simp [Cell.ok,ht] at hv
 | tuple cs=>simp only [Cell.okWide,ht] at hv;simp [Cell.ok,ht] at hv
 | _=>rfl
theorem cells_int {κ:IntKind} (ht:P.underlying t=some (.int κ)) (hv:Value.okWide P w r b0 t v):v.cells.toList=[v]:=by
 unfold Value.okWide at hv;rw [ht] at hv
 cases v with
 | agg cs=>simp only [Cell.okWide,ht] at hv;simp [Cell.ok,ht] at hv
 | tuple cs=>simp only [Cell.okWide,ht] at hv;simp [Cell.ok,ht] at hv
 | _=>rfl
/-! what was there reads as it did -/
theorem trodAll_below (hl:laidOutB P=true) {W W':World} (hb:Below W.heap.size W W') :
 ∀ (ts:List TypeId) (vs:List Value) (ds:List (DataW H)) (ps:List MemPlace),(∀ t∈ts,P.readableRec t=true∧t < P.types.size)→(∀ x∈ps,x.block < W.heap.size) →
  DataW.TrodAll enc P W 0 (fun _=>true) true ts vs ds ps→DataW.TrodAll enc P W' 0 (fun b=>decide (b < W.heap.size)) true ts vs ds ps
 | [],[],[],ps,_,_,h=>h
 | t :: ts,v :: vs,d :: ds,ps,hr,hlt,h=>by
  obtain ⟨p,q,hd,hs,rfl⟩:=h;have hrt:=hr t (by simp);exact ⟨p,q,Below.trod hl hrt.1 hrt.2 hd hb fun x hx=>hlt x (by simp [hx]),trodAll_below hl hb ts vs ds q (fun t ht=>hr t (by simp [ht])) (fun x hx=>hlt x (by simp [hx])) hs,rfl⟩
 | [],_ :: _,_,_,_,_,h=>by simp [DataW.TrodAll] at h
 | [],[],_ :: _,_,_,_,h=>by simp [DataW.TrodAll] at h
 | _ :: _,[],_,_,_,_,h=>by simp [DataW.TrodAll] at h
 | _ :: _,_ :: _,[],_,_,_,h=>by simp [DataW.TrodAll] at h
/-- THE LAST STEP: the law returns true and leaves alone what was there -/
theorem law_post {f:Func} {s:ChangeSpec} {apart fresh handsOn:Bool} {W W':World} {args:Array Value} {ds gs:List (DataW H)} {before:List MemPlace} {tb:TypeId}
 (hl:laidOutB P=true) (hv:s.vars=[]) (hrt:f.resultTypes=#[tb]) (hub:P.underlying tb=some .bool) (hread:(f.params.toList.all fun t=>P.readableRec t && decide (t < P.types.size))=true)
 (hW:DataW.Whole enc P f.params.toList s.vars apart W args.toList ds gs before) (hfn:∀ gs',gs'=[]→s.fn H (ds ++ gs')={ results:=[.lit (.bool true)],args:=ds }) (hb:Below W.heap.size W W') :
 s.post enc P f apart fresh handsOn false W args (.bool true) W':=by
 have hread':∀ t∈f.params.toList,P.readableRec t=true∧t < P.types.size:=fun t ht=>by
  have:=List.all_eq_true.1 hread t ht
  simpa using this
 have hW':=hW;obtain ⟨p,q,hA,hV,rfl,hfz,hnd⟩:=hW;rw [hv] at hV;obtain ⟨rfl,rfl⟩:=trodVars_none hV;have hlt:∀ x∈p,x.block < W.heap.size:=fun x hx=>hW'.lt x (by simpa using hx)
 refine ⟨ds,[],p ++ [],[],p,[],hW',?_,?_,?_,?_,fun h=>by cases h⟩
 ·rw [hfn [] rfl,hrt];exact trodAll_mk1 (shut_bool hub true)
 ·rw [hfn [] rfl];exact trodAll_below hl hb _ _ _ _ hread' hlt hA
 ·rw [hv,hfn [] rfl];rfl
 ·refine World.keptBut_mono (fun x hx=>⟨hx,.inr (.inl (by simpa using hx))⟩) (hb.frame (·∈p ++ []))
/-- a contract that tells true, in the world that the law is called in -/
theorem ac_law {fn:Nat} {args:List AV} {vs:List Value} {W:World} (h:AC P fn args [] (fun v bs'=>v=.sc (.bool true)∧bs'=[])) (ha:∀ φ κ,RC W φ κ (fun b=>b < W.heap.size) args vs Ct.z) :
 Calls P fn vs.toArray W fun e W'=>e=.returned (.bool true)∧Below W.heap.size W W':=by
 refine (h.2 W (fun _ _=>none) (fun _ _=>none) _ vs [] Ct.z Ct.z (ha _ _) .nil (fun i g B hi=>by simp at hi) (fun _ _ _=>rfl) (fun _ _ _=>rfl) (fun x=>by simp [Ct.z]) (fun x hx=>by simp [Ct.z] at hx) (fun x hx=>⟨hx,rfl⟩)).mono ?_;rintro e W' ⟨v,r,bs',gs',Sr,Sb',φ',F,rfl,⟨rfl,rfl⟩,hr,_,_,_,_,_,_,hf⟩
 cases hr with
 | sc=>exact ⟨rfl,hf.os,hf.tape,hf.output,hf.size,fun b hb=>hf.block b hb rfl⟩
theorem bulk_of {l:List (DataW H)} (hk:Rows.uptoSmall H l=true):Rows.uptoBulkAll l≤1048576:=of_decide_eq_true hk
end
end
section
open Go.RowKit Go.ChangeShapes Go.WideShapes Go.ChangeAt Go.Deep
theorem laidOut:laidOutB Tryz.prog=true:=by kernel_rfl
theorem own_knob:ownKnob Tryz.prog.godebug=none:=by kernel_rfl
def I64 (x:Int):Prop:=-9223372036854775808≤x∧x≤9223372036854775807
theorem i64_of {x:Int} (h:(Lit.int .i64 x).wf=true):I64 x:=by simpa [Lit.wf,IntKind.min,IntKind.max,IntKind.signed,IntKind.bits,I64] using h
theorem u8_of {x:Int} (h:(Lit.int .u8 x).wf=true):0≤x∧x≤255:=by simpa [Lit.wf,IntKind.min,IntKind.max,IntKind.signed,IntKind.bits] using h
theorem oi:OA Tryz.prog 3 1 (fun _ x=>I64 x) (fun x=>[I x]):=(oa_int Tryz.underlying3 (by kernel_rfl)).map id (fun _ _ _ _ h=>h) (fun _ _ h=>i64_of h) fun _=>rfl
theorem obl:OA Tryz.prog 4 1 (fun _ (_:Bool)=>True) (fun x=>[B x]):=oa_bool Tryz.underlying4 (by kernel_rfl)
theorem ou:OA Tryz.prog 5 1 (fun _ (_:UInt8)=>True) eB:=(oa_int Tryz.underlying5 (by kernel_rfl)).wmap (fun x:Int=>UInt8.ofNat x.toNat) (fun _ _ _ _ h=>h) (fun _ _ _=>trivial) fun n x hx=>by
 have h:=u8_of hx;have e:((UInt8.ofNat x.toNat).toNat:Int)=x:=by rw [UInt8.toNat_ofNat'];omega
 simp only [eB,U,e]
theorem obs:OA Tryz.prog 22 1 (fun N (l:List UInt8)=>(∀ x∈l,True)∧l.length < N) (fun l=>[bs none l]):=oa_slice (by decide) Tryz.underlying22 (by kernel_rfl) ou
end
abbrev Rd:=Int×List UInt8
/-- a reader f reads what g writes, of what is ok; and what it reads is so written -/
structure Cod {α:Type} (f:Rd→α×Rd) (g:α→List UInt8) (ok:α→Prop):Prop where
 fwd:∀ a rest,ok a→f (0,g a ++ rest)=(a,(0,rest))
 bwd:∀ st,(f st).2.1=0→st.2=g (f st).1 ++ (f st).2.2∧ok (f st).1
 stk:∀ st,st.1≠0→(f st).2.1≠0
theorem foldl_be (l:List UInt8):∀ x:Nat,l.foldl (fun x c=>256 * x + c.toNat) x=x * 256 ^ l.length + beN l:=by
 induction l with
 | nil=>intro x;simp [beN]
 | cons c l ih=>
  intro x;have h0:=ih (256 * 0 + c.toNat);rw [List.foldl_cons,ih];unfold beN at *;rw [List.foldl_cons,h0,List.length_cons,Nat.pow_succ];rw [Nat.add_mul,Nat.mul_zero,Nat.zero_add];have:256 * x * 256 ^ l.length=x * (256 ^ l.length * 256):=by rw [Nat.mul_comm 256 x,Nat.mul_assoc,Nat.mul_comm 256]
  omega
theorem beN_cons (y:UInt8) (b:List UInt8):beN (y :: b)=y.toNat * 256 ^ b.length + beN b:=by
 have:=foldl_be b y.toNat;simp only [beN,List.foldl_cons] at *;rw [Nat.mul_zero,Nat.zero_add];exact this
theorem putS_mod (c x m:Nat):∀ n,n≤m→putS (c * 256 ^ m + x) n=putS x n
 | 0,_=>rfl
 | n + 1,h=>by
  rw [putS,putS,putS_mod c x m n (by omega)]
  congr 2
  have hm:c * 256 ^ m=256 ^ n * (256 * (c * 256 ^ (m - n - 1))):=by
   have h1:256 ^ m=256 ^ n * (256 * 256 ^ (m - n - 1)):=by rw [←Nat.pow_succ',←Nat.pow_add];congr 1;omega
   rw [h1,Nat.mul_left_comm,Nat.mul_left_comm c 256]
  rw [hm,Nat.mul_add_div (Nat.pow_pos (by omega)),Nat.mul_add_mod]
theorem putS_beN:∀ {n:Nat} {b:List UInt8},b.length=n→putS (beN b) n=b
 | 0,b,h=>by rw [List.length_eq_zero_iff.1 h];rfl
 | n + 1,[],h=>by simp at h
 | n + 1,y :: b,h=>by
  have hb:b.length=n:=by simpa using h
  have hlt:=beN_lt b;rw [hb] at hlt;rw [beN_cons,hb,putS,putS_mod _ _ _ n (Nat.le_refl _),putS_beN hb]
  congr 1
  rw [Nat.mul_comm,Nat.mul_add_div (Nat.pow_pos (by omega)),Nat.div_eq_of_lt hlt,Nat.add_zero,Nat.mod_eq_of_lt y.toNat_lt];simp
theorem beN_putS (x:Nat):∀ n,beN (putS x n)=x % 256 ^ n
 | 0=>by simp [putS,beN,Nat.mod_one]
 | n + 1=>by
  rw [putS,beN_cons,putS_length,beN_putS x n];have:(UInt8.ofNat (x / 256 ^ n % 256)).toNat=x / 256 ^ n % 256:=by simp
  rw [this,Nat.pow_succ,Nat.mod_mul,Nat.mul_comm,Nat.add_comm]
theorem toI_u (n:Int) (h:I64 n):toI (IntKind.u64.wrap n).toNat=n:=by
 unfold I64 at h;simp [toI,IntKind.wrap,IntKind.bits,IntKind.signed];omega
theorem toI_in (x:Nat):I64 (toI x):=by
 simp [toI,I64,IntKind.wrap,IntKind.bits,IntKind.signed];omega
theorem intS_toI (x:Nat) (h:x < 2 ^ 64):intS (toI x)=putS x 8:=by
 have:(IntKind.u64.wrap (toI x)).toNat=x:=by simp [toI,IntKind.wrap,IntKind.bits,IntKind.signed];omega
 rw [intS,this]
theorem beN_intS (n:Int):beN (intS n)=(IntKind.u64.wrap n).toNat:=by
 rw [intS,beN_putS,Nat.mod_eq_of_lt];have:=wrap_u64_lt n
 simpa using this
/-- readers of so many bytes -/
theorem takeS_zero {α:Type} {z:α} {f:List UInt8→α×Bool} {n:Nat} {st:Rd} (h:(takeS z f n st).2.1=0) :
 st.1=0∧n≤st.2.length∧(f (st.2.take n)).2=true∧takeS z f n st=((f (st.2.take n)).1,(0,st.2.drop n)):=by
 unfold takeS at h ⊢;split at h
 ·rename_i h0;exact absurd h h0
 ·rename_i h0
  split at h
  ·simp at h
  ·rename_i h1
   split at h
   ·rename_i h2
    simp only [Int.toNat_natCast] at h2;rw [if_neg h0,if_neg h1];simp only [Int.toNat_natCast];rw [if_pos h2];exact ⟨by simpa using h0,by omega,h2,rfl⟩
   ·simp at h
theorem takeS_fwd {α:Type} {z:α} {f:List UInt8→α×Bool} {n:Nat} {b rest:List UInt8} (hb:b.length=n) (hf:(f b).2=true):takeS z f n (0,b ++ rest)=((f b).1,(0,rest)):=by
 subst hb;unfold takeS;rw [if_neg (by simp),if_neg (by simp;omega)];simp [hf]
theorem takeS_stk {α:Type} {z:α} {f:List UInt8→α×Bool} {n:Int} {st:Rd} (h:st.1≠0):(takeS z f n st).2.1≠0:=by
 unfold takeS;rw [if_pos h];exact h
theorem cod_int:Cod intR intS I64 where
 fwd a rest h:=by
  unfold intR;have:=takeS_fwd (z:=(0:Int)) (f:=intG) (n:=8) (b:=intS a) (rest:=rest) (intS_length a) rfl;rw [show ((8:Nat):Int)=8 from rfl] at this;rw [this,intG,beN_intS,toI_u a h]
 bwd st h:=by
  obtain ⟨h1,h2,h3,h4⟩:=takeS_zero (n:=8) (f:=intG) (z:=(0:Int)) (st:=st) h;have e:intR st=(toI (beN (st.2.take 8)),(0,st.2.drop 8)):=h4;have hl:(st.2.take 8).length=8:=by simp;omega
  rw [e];refine ⟨?_,toI_in _⟩;have hlt:=beN_lt (st.2.take 8);rw [hl] at hlt;dsimp only;rw [intS_toI _ (by simpa using hlt),putS_beN hl,List.take_append_drop]
 stk st h:=takeS_stk h
theorem len1' {b:List UInt8} (h:b.length=1):b=[b.headD 0]:=by
 match b,h with
 | [x],_=>rfl
theorem cod_byte:Cod byteR (fun x=>[x]) (fun _=>True) where
 fwd a rest _:=takeS_fwd (z:=(0:UInt8)) (f:=byteG) (n:=1) (b:=[a]) (rest:=rest) rfl rfl
 bwd st h:=by
  obtain ⟨h1,h2,h3,h4⟩:=takeS_zero (n:=1) (f:=byteG) (z:=(0:UInt8)) (st:=st) h;have e:byteR st=((st.2.take 1).headD 0,(0,st.2.drop 1)):=h4;have hl:(st.2.take 1).length=1:=by simp;omega
  rw [e];refine ⟨?_,trivial⟩;dsimp only;rw [←len1' hl,List.take_append_drop]
 stk st h:=takeS_stk h
theorem cod_flag:Cod flagR flagS (fun _=>True) where
 fwd a rest _:=by
  cases a with
  | true=>exact takeS_fwd (z:=false) (f:=flagG) (n:=1) (b:=[1]) (rest:=rest) rfl rfl
  | false=>exact takeS_fwd (z:=false) (f:=flagG) (n:=1) (b:=[0]) (rest:=rest) rfl rfl
 bwd st h:=by
  obtain ⟨h1,h2,h3,h4⟩:=takeS_zero (n:=1) (f:=flagG) (z:=false) (st:=st) h;have e:flagR st=((st.2.take 1).headD 0 == 1,(0,st.2.drop 1)):=h4;have hl:(st.2.take 1).length=1:=by simp;omega
  rw [e];refine ⟨?_,trivial⟩;dsimp only;have h5:=len1' hl;generalize (st.2.take 1).headD 0=x at h5 h3;have h6:st.2=[x] ++ st.2.drop 1:=by rw [←h5,List.take_append_drop]
  have hx:x=0∨x=1:=by
   simp only [flagG,h5,List.headD_cons,decide_eq_true_eq,UInt8.le_iff_toNat_le] at h3;have h3':x.toNat≤1:=h3;rcases (by omega:x.toNat=0∨x.toNat=1) with h|h
   ·exact .inl (UInt8.toNat_inj.1 (by simpa using h))
   ·exact .inr (UInt8.toNat_inj.1 (by simpa using h))
  rcases hx with rfl|rfl
  ·exact h6
  ·exact h6
 stk st h:=takeS_stk h
def bytesF' (b:List UInt8):List UInt8:=putS b.length 4 ++ b
theorem cod_bytes:Cod bytesR bytesF' (fun b=>b.length≤65536) where
 fwd a rest h:=by
  have hn:beN (putS a.length 4)=a.length:=by rw [beN_putS,Nat.mod_eq_of_lt];simp;omega
  have e1:lenR (0,putS a.length 4 ++ (a ++ rest))=((a.length:Int),(0,a ++ rest)):=by
   have:=takeS_fwd (z:=(0:Int)) (f:=lenG) (n:=4) (b:=putS a.length 4) (rest:=a ++ rest) (putS_length _ _) (by simp [lenG,hn];exact h);rw [show ((4:Nat):Int)=4 from rfl] at this;rw [lenR,this,lenG,hn]
  unfold bytesR bytesF';rw [List.append_assoc,e1];exact takeS_fwd (z:=([]:List UInt8)) (f:=bytesG) (n:=a.length) (b:=a) (rest:=rest) rfl rfl
 bwd st h:=by
  have hz:(lenR st).2.1=0:=by
   by_cases h0:(lenR st).2.1=0
   ·exact h0
   ·exact absurd h (takeS_stk h0)
  obtain ⟨h1,h2,h3,h4⟩:=takeS_zero (n:=4) (f:=lenG) (z:=(0:Int)) (st:=st) hz;have e:lenR st=((beN (st.2.take 4):Int),(0,st.2.drop 4)):=h4;have hl:(st.2.take 4).length=4:=by simp;omega
  have hle:beN (st.2.take 4)≤65536:=by simpa [lenG] using h3
  unfold bytesR at h ⊢;rw [e] at h ⊢;obtain ⟨g1,g2,g3,g4⟩:=takeS_zero (n:=beN (st.2.take 4)) (f:=bytesG) (z:=([]:List UInt8)) (st:=(0,st.2.drop 4)) h;dsimp only at g2 g4 ⊢;rw [g4];dsimp only [bytesG,bytesF'];have hll:((st.2.drop 4).take (beN (st.2.take 4))).length=beN (st.2.take 4):=by rw [List.length_take];omega
  rw [hll,putS_beN hl,List.append_assoc,List.take_append_drop,List.take_append_drop];exact ⟨rfl,hle⟩
 stk st h:=by
  unfold bytesR;exact takeS_stk (takeS_stk h)
/-- one behind the other -/
theorem Cod.seq {α β:Type} {f:Rd→α×Rd} {g:α→List UInt8} {ok:α→Prop} {f2:α→Rd→β×Rd} {g2:α→β→List UInt8} {ok2:α→β→Prop} (h:Cod f g ok) (h2:∀ a,ok a→Cod (f2 a) (g2 a) (ok2 a)) (hs:∀ a st,st.1≠0→(f2 a st).2.1≠0) :
 Cod (fun st=>(((f st).1,(f2 (f st).1 (f st).2).1),(f2 (f st).1 (f st).2).2)) (fun x=>g x.1 ++ g2 x.1 x.2) (fun x=>ok x.1∧ok2 x.1 x.2) where
 fwd a rest hk:=by
  rw [List.append_assoc,h.fwd _ _ hk.1];dsimp only;rw [(h2 _ hk.1).fwd _ _ hk.2]
 bwd st h0:=by
  dsimp only at h0 ⊢
  have hz:(f st).2.1=0:=by
   by_cases h1:(f st).2.1=0
   ·exact h1
   ·exact absurd h0 (hs _ _ h1)
  obtain ⟨a1,a2⟩:=h.bwd st hz;obtain ⟨b1,b2⟩:=(h2 _ a2).bwd _ h0;exact ⟨by rw [a1,List.append_assoc];congr 1,a2,b2⟩
 stk st h0:=hs _ _ (h.stk st h0)
/-- the same under other names -/
theorem Cod.iso {α β:Type} {f:Rd→α×Rd} {g:α→List UInt8} {ok:α→Prop} (h:Cod f g ok) (t:α→β) (u:β→α) {f':Rd→β×Rd} {g':β→List UInt8} {ok':β→Prop}
 (hf:∀ st,f' st=(t (f st).1,(f st).2)) (hg:∀ b,ok' b→g' b=g (u b)) (hok:∀ b,ok' b→ok (u b)∧t (u b)=b) (hok':∀ a,ok a→ok' (t a)∧u (t a)=a):Cod f' g' ok' where
 fwd b rest hb:=by
  rw [hf,hg b hb,h.fwd _ _ (hok b hb).1];dsimp only;rw [(hok b hb).2]
 bwd st h0:=by
  rw [hf] at h0 ⊢;obtain ⟨a1,a2⟩:=h.bwd st h0;have:=hok' _ a2;exact ⟨by dsimp only;rw [hg _ this.1,this.2];exact a1,this.1⟩
 stk st h0:=by rw [hf];exact h.stk st h0
def okRs (p:Int) (e:Entry):Prop:=e.pos=p∧I64 e.stamp∧I64 e.client∧I64 e.id∧e.body.length≤65536
theorem cod_rest (p:Int):Cod (restR p) restF (okRs p):=
 (((cod_int.seq (fun _ _=>cod_int) fun _=>cod_int.stk).seq (fun _ _=>cod_int) fun _=>cod_int.stk).seq (fun _ _=>cod_bytes) fun _=>cod_bytes.stk).iso
   (fun x=>⟨p,x.1.1.1,x.1.1.2,x.1.2,x.2⟩) (fun e=>(((e.stamp,e.client),e.id),e.body)) (fun st=>rfl)
   (fun e _=>by simp [restF,numS,bytesF']) (fun e he=>⟨⟨⟨⟨he.2.1,he.2.2.1⟩,he.2.2.2.1⟩,he.2.2.2.2⟩,by cases e;simp [okRs] at he ⊢;exact he.1.symm⟩)
   fun x hx=>⟨⟨rfl,hx.1.1.1,hx.1.1.2,hx.1.2,hx.2⟩,rfl⟩
def okMb (m:Member):Prop:=I64 m.node∧I64 m.since
theorem cod_mem:Cod memR memF okMb:=
 ((cod_int.seq (fun _ _=>cod_int) fun _=>cod_int.stk).seq (fun _ _=>cod_flag) fun _=>cod_flag.stk).iso
   (fun x=>(⟨x.1.1,x.1.2,x.2⟩:Member)) (fun m=>((m.node,m.since),m.whole)) (fun st=>rfl) (fun m _=>by simp [memF,numS]) (fun m hm=>⟨⟨⟨hm.1,hm.2⟩,trivial⟩,rfl⟩) fun x hx=>⟨⟨hx.1.1,hx.1.2⟩,rfl⟩
theorem cod_nil {α:Type} (P:α→Prop) (g:α→List UInt8):Cod (fun st:Rd=>(([]:List α),st)) (fun l=>(l.map g).flatten) (fun l=>l.length=0∧∀ x∈l,P x) where
 fwd l rest h:=by obtain rfl:=List.length_eq_zero_iff.1 h.1;rfl
 bwd st h:=⟨rfl,rfl,by simp⟩
 stk st h:=h
theorem cod_mems:∀ n,Cod (memsR n) (fun l=>(l.map memF).flatten) (fun l=>l.length=n∧∀ m∈l,okMb m)
 | 0=>cod_nil okMb memF
 | n + 1 => (cod_mem.seq (fun _ _ => cod_mems n) fun _ => (cod_mems n).stk).iso (fun x => x.1 :: x.2) (fun l => (l.headD ⟨0, 0, false⟩, l.tail)) (fun st => rfl)
     (fun l hl=>by cases l with|nil=>simp at hl|cons m l=>simp) (fun l hl=>by cases l with
       | nil=>simp at hl
       | cons m l=>exact ⟨⟨hl.2 m (by simp),by simpa using hl.1,fun x hx=>hl.2 x (by simp at hx;simp [hx])⟩,rfl⟩) fun x hx=>⟨⟨by simpa using hx.2.1,fun m hm=>by
        rcases List.mem_cons.1 hm with rfl|hm
        ·exact hx.1
        ·exact hx.2.2 m hm⟩,rfl⟩
/-- entries from a position on -/
def okPos (p:Int):Nat→List Entry→Prop
 | _,[]=>True
 | i,e :: l=>okRs (IntKind.i64.wrap (p + i)) e∧okPos p (i + 1) l
theorem count_fwd {m:Int} {n:Nat} {rest:List UInt8} (h1:(n:Int)≤m) (h2:n≤rest.length) (h3:m≤1000):countR m (0,intS n ++ rest)=((n:Int),(0,rest)):=by
 have hi:I64 (n:Int):=by unfold I64;omega
 have hl:leftR (0,intS n ++ rest) - 8=(rest.length:Int):=by simp [leftR,intS_length];omega
 have:=takeS_fwd (z:=(0:Int)) (f:=countG m (leftR (0,intS n ++ rest) - 8)) (n:=8) (b:=intS n) (rest:=rest) (intS_length _) (by
  simp only [countG,beN_intS,toI_u _ hi,hl];simp;omega)
 rw [show ((8:Nat):Int)=8 from rfl] at this;rw [countR,this,countG,beN_intS,toI_u _ hi]
theorem count_bwd {m:Int} {st:Rd} (h:(countR m st).2.1=0):st.2=intS (countR m st).1 ++ (countR m st).2.2∧0≤(countR m st).1∧(countR m st).1≤m:=by
 unfold countR at h ⊢;obtain ⟨h1,h2,h3,h4⟩:=takeS_zero (n:=8) (f:=countG m (leftR st - 8)) (z:=(0:Int)) (st:=st) h;rw [show ((8:Nat):Int)=8 from rfl] at h4;rw [h4];have hl:(st.2.take 8).length=8:=by simp;omega
 have hlt:=beN_lt (st.2.take 8);rw [hl] at hlt;simp only [countG,Bool.and_eq_true,decide_eq_true_eq] at h3 ⊢;refine ⟨?_,h3.1.1,h3.1.2⟩;rw [intS_toI _ (by simpa using hlt),putS_beN hl,List.take_append_drop]
theorem count_stk {m:Int} {st:Rd} (h:st.1≠0):(countR m st).2.1≠0:=takeS_stk h
/-- a number of things, and these -/
def cntR {α:Type} (m:Int) (el:Nat→Rd→List α×Rd) (st:Rd):List α×Rd:=el (countR m st).1.toNat (countR m st).2
theorem cod_cnt {α:Type} {m:Int} {el:Nat→Rd→List α×Rd} {gl:List α→List UInt8} {ok:List α→Prop} (hm:m≤1000) (h:∀ n,Cod (el n) gl (fun l=>l.length=n∧ok l)) (hl:∀ l,ok l→l.length≤(gl l).length) :
 Cod (cntR m el) (fun l=>intS l.length ++ gl l) (fun l=>(l.length:Int)≤m∧ok l) where
 fwd l rest hk:=by
  unfold cntR;rw [List.append_assoc,count_fwd hk.1 (by rw [List.length_append];have:=hl l hk.2;omega) hm];dsimp only;rw [Int.toNat_natCast];exact (h l.length).fwd l rest ⟨rfl,hk.2⟩
 bwd st h0:=by
  unfold cntR at h0 ⊢
  have hz:(countR m st).2.1=0:=by
   by_cases h1:(countR m st).2.1=0
   ·exact h1
   ·exact absurd h0 ((h _).stk _ h1)
  obtain ⟨a1,a2,a3⟩:=count_bwd hz;obtain ⟨b1,b2,b3⟩:=(h _).bwd _ h0;have e:(((el (countR m st).1.toNat (countR m st).2).1.length:Nat):Int)=(countR m st).1:=by rw [b2];omega
  rw [e];exact ⟨by rw [List.append_assoc,←b1];exact a1,a3,b3⟩
 stk st h0:=(h _).stk _ (count_stk h0)
theorem flat_len {α:Type} {g:α→List UInt8} (h:∀ x,1≤(g x).length):∀ l:List α,l.length≤((l.map g).flatten).length
 | []=>by simp
 | x :: l=>by have:=flat_len h l;have:=h x;simp at *;omega
def okCf (c:Config):Prop:=I64 c.epoch∧c.members.length≤5∧∀ m∈c.members,okMb m
theorem cod_config:Cod configR configF okCf:=
 (cod_int.seq (fun _ _=>cod_cnt (m:=5) (by omega) cod_mems fun l _=>flat_len (fun m=>by rw [memF_length];omega) l) fun _=>(cod_cnt (m:=5) (by omega) cod_mems fun l _=>flat_len (fun m=>by rw [memF_length];omega) l).stk).iso
   (fun x=>⟨x.1,x.2⟩) (fun c=>(c.epoch,c.members)) (fun st=>rfl) (fun c _=>by simp [configF,numS]) (fun c hc=>⟨⟨hc.1,by have:=hc.2.1;dsimp only;omega,hc.2.2⟩,rfl⟩) fun x hx=>⟨⟨hx.1,by have:=hx.2.1;dsimp only at this ⊢;omega,hx.2.2⟩,rfl⟩
def ent00:Entry:=⟨0,0,0,0,[]⟩
theorem cod_ents (p:Int):∀ (n i:Nat),Cod (fun st=>entsR p i n st) (fun l=>(l.map restF).flatten) (fun l=>l.length=n∧okPos p i l)
 | 0,i=>{ fwd:=fun l rest h=>by (obtain rfl:=List.length_eq_zero_iff.1 h.1;rfl),bwd:=fun st h=>⟨rfl,rfl,trivial⟩,stk:=fun st h=>h }
 | n + 1, i => ((cod_rest (IntKind.i64.wrap (p + i))).seq (fun _ _ => cod_ents p n (i + 1)) fun _ => (cod_ents p n (i + 1)).stk).iso (fun x => x.1 :: x.2) (fun l => (l.headD ent00, l.tail)) (fun st => rfl)
     (fun l hl=>by cases l with|nil=>simp at hl|cons m l=>simp) (fun l hl=>by cases l with
       | nil=>simp at hl
       | cons m l=>exact ⟨⟨hl.2.1,by simpa using hl.1,hl.2.2⟩,rfl⟩) fun x hx=>⟨⟨by simpa using hx.2.1,hx.1,hx.2.2⟩,rfl⟩
theorem cod_cents (p:Int):Cod (cntR 4 (entsR p 0)) (fun l=>intS l.length ++ (l.map restF).flatten) (fun l=>(l.length:Int)≤4∧okPos p 0 l):=
 cod_cnt (by omega) (fun n=>cod_ents p n 0) fun l _=>flat_len (fun e=>by rw [restF_length];omega) l
/-- what a message's fields are, for what is read -/
def okMm (m:Msg):Prop:=match m.kind.toNat with
 | 1=>m={ msg0 with kind:=m.kind,client:=m.client,id:=m.id,body:=m.body }∧I64 m.client∧I64 m.id∧m.body.length≤65536
 | 2=>m={ msg0 with kind:=m.kind,upto:=m.upto,frm:=m.frm,entries:=m.entries }∧I64 m.upto∧I64 m.frm∧m.entries.length≤4∧okPos m.frm 0 m.entries
 | 3=>m={ msg0 with kind:=m.kind,have_:=m.have_,done:=m.done }∧I64 m.have_∧I64 m.done
 | 4=>m={ msg0 with kind:=m.kind,cfg:=m.cfg }∧okCf m.cfg
 | 5=>m={ msg0 with kind:=m.kind,since:=m.since }∧I64 m.since
 | 6=>m={ msg0 with kind:=m.kind,client:=m.client,id:=m.id,body:=m.body }∧I64 m.client∧I64 m.id∧m.body.length≤65536
 | _=>False
def okK (k:UInt8) (m:Msg):Prop:=m.kind=k∧okMm m
theorem cod_ask (k:UInt8) (hk:k.toNat=1∨k.toNat=6):Cod (takeAsk k) fieldF (okK k):=
 ((cod_int.seq (fun _ _=>cod_int) fun _=>cod_int.stk).seq (fun _ _=>cod_bytes) fun _=>cod_bytes.stk).iso
   (fun x=>{ msg0 with kind:=k,client:=x.1.1,id:=x.1.2,body:=x.2 }) (fun m=>((m.client,m.id),m.body)) (fun st=>rfl)
   (fun m hm=>by obtain ⟨rfl,_⟩:=hm;rcases hk with hk|hk<;>simp [fieldF,hk,askF,numS,bytesF'])
   (fun m hm=>by
     obtain ⟨rfl,hm⟩:=hm
     have:m={ msg0 with kind:=m.kind,client:=m.client,id:=m.id,body:=m.body }∧I64 m.client∧I64 m.id∧m.body.length≤65536:=by
      unfold okMm at hm;rcases hk with hk|hk<;>(rw [hk] at hm;exact hm)
     exact ⟨⟨⟨this.2.1,this.2.2.1⟩,this.2.2.2⟩,this.1.symm⟩)
   fun x hx=>⟨⟨rfl,by
    unfold okMm;rcases hk with hk|hk<;>(dsimp only;rw [hk];exact ⟨rfl,hx.1.1,hx.1.2,hx.2⟩)⟩,rfl⟩
theorem cod_tent (k:UInt8) (hk:k.toNat=2):Cod (takeEnt k) fieldF (okK k):=
 (cod_int.seq (fun _ _=>cod_int.seq (fun p _=>cod_cents p) fun p=>(cod_cents p).stk) fun _ st h=>(cod_cents _).stk _ (cod_int.stk st h)).iso
   (fun x=>{ msg0 with kind:=k,upto:=x.1,frm:=x.2.1,entries:=x.2.2 }) (fun m=>(m.upto,(m.frm,m.entries))) (fun st=>rfl)
   (fun m hm=>by obtain ⟨rfl,_⟩:=hm;simp [fieldF,hk,entF,numS])
   (fun m hm=>by
     obtain ⟨rfl,hm⟩:=hm;unfold okMm at hm;rw [hk] at hm;exact ⟨⟨hm.2.1,hm.2.2.1,by have:=hm.2.2.2.1;dsimp only;omega,hm.2.2.2.2⟩,hm.1.symm⟩)
   fun x hx=>⟨⟨rfl,by
    unfold okMm;dsimp only;rw [hk];exact ⟨rfl,hx.1,hx.2.1,by have:=hx.2.2.1;omega,hx.2.2.2⟩⟩,rfl⟩
theorem cod_have (k:UInt8) (hk:k.toNat=3):Cod (takeHave k) fieldF (okK k):=
 (cod_int.seq (fun _ _=>cod_int) fun _=>cod_int.stk).iso
   (fun x=>{ msg0 with kind:=k,have_:=x.1,done:=x.2 }) (fun m=>(m.have_,m.done)) (fun st=>rfl)
   (fun m hm=>by obtain ⟨rfl,_⟩:=hm;simp [fieldF,hk,numS])
   (fun m hm=>by
     obtain ⟨rfl,hm⟩:=hm;unfold okMm at hm;rw [hk] at hm;exact ⟨⟨hm.2.1,hm.2.2⟩,hm.1.symm⟩)
   fun x hx=>⟨⟨rfl,by unfold okMm;dsimp only;rw [hk];exact ⟨rfl,hx.1,hx.2⟩⟩,rfl⟩
theorem cod_tcfg (k:UInt8) (hk:k.toNat=4):Cod (takeCfg k) fieldF (okK k):=
 cod_config.iso (fun x=>{ msg0 with kind:=k,cfg:=x }) (fun m=>m.cfg) (fun st=>rfl)
  (fun m hm=>by obtain ⟨rfl,_⟩:=hm;simp [fieldF,hk])
  (fun m hm=>by
    obtain ⟨rfl,hm⟩:=hm;unfold okMm at hm;rw [hk] at hm;exact ⟨hm.2,hm.1.symm⟩)
  fun x hx=>⟨⟨rfl,by unfold okMm;dsimp only;rw [hk];exact ⟨rfl,hx⟩⟩,rfl⟩
theorem cod_whole (k:UInt8) (hk:k.toNat=5):Cod (takeWhole k) fieldF (okK k):=
 cod_int.iso (fun x=>{ msg0 with kind:=k,since:=x }) (fun m=>m.since) (fun st=>rfl)
  (fun m hm=>by obtain ⟨rfl,_⟩:=hm;simp [fieldF,hk,numS])
  (fun m hm=>by
    obtain ⟨rfl,hm⟩:=hm;unfold okMm at hm;rw [hk] at hm;exact ⟨hm.2,hm.1.symm⟩)
  fun x hx=>⟨⟨rfl,by unfold okMm;dsimp only;rw [hk];exact ⟨rfl,hx⟩⟩,rfl⟩
theorem cod_takeM (k:UInt8):Cod (takeM k) fieldF (okK k):=by
 rcases kind_cases k with hk|hk|hk|hk|hk|hk|hk
 ·have:=cod_ask k (.inl hk);rwa [show takeAsk k=takeM k from funext fun st=>by simp only [takeM,hk]] at this
 ·have:=cod_tent k hk;rwa [show takeEnt k=takeM k from funext fun st=>by simp only [takeM,hk]] at this
 ·have:=cod_have k hk;rwa [show takeHave k=takeM k from funext fun st=>by simp only [takeM,hk]] at this
 ·have:=cod_tcfg k hk;rwa [show takeCfg k=takeM k from funext fun st=>by simp only [takeM,hk]] at this
 ·have:=cod_whole k hk;rwa [show takeWhole k=takeM k from funext fun st=>by simp only [takeM,hk]] at this
 ·have:=cod_ask k (.inr hk);rwa [show takeAsk k=takeM k from funext fun st=>by simp only [takeM,hk]] at this
 ·have e:∀ st,takeM k st=(msg0,(40,[])):=fun st=>by
   unfold takeM;split<;>first|omega|rfl
  have hn:∀ m,¬ okK k m:=fun m hm=>by
   obtain ⟨rfl,hm⟩:=hm;unfold okMm at hm;split at hm<;>first|omega|exact hm
  exact { fwd:=fun a rest h=>absurd h (hn a),bwd:=fun st h=>by (rw [e] at h;simp at h),stk:=fun st h=>by (rw [e];simp) }
/-- a message and its kind -/
def msgR (st:Rd):Msg×Rd:=takeM (byteR st).1 (byteR st).2
theorem cod_msg:Cod msgR formM okMm:=
 (cod_byte.seq (fun k _=>cod_takeM k) fun k=>(cod_takeM k).stk).iso (fun x=>x.2) (fun m=>(m.kind,m)) (fun st=>rfl)
   (fun m _=>rfl) (fun m hm=>⟨⟨trivial,rfl,hm⟩,rfl⟩) fun x hx=>⟨hx.2.2,by obtain ⟨k,m⟩:=x;obtain ⟨_,h2,_⟩:=hx;dsimp only at h2 ⊢;rw [h2]⟩
def rng (m:Msg):Prop:=(I64 m.client∧I64 m.id∧I64 m.upto∧I64 m.frm∧I64 m.have_∧I64 m.done∧I64 m.since)∧(I64 m.cfg.epoch∧∀ x∈m.cfg.members,okMb x)∧∀ e∈m.entries,I64 e.pos∧I64 e.stamp∧I64 e.client∧I64 e.id
theorem okPos_of {m:Msg} (hf:1≤m.frm) (hf2:I64 m.frm):∀ {l:List Entry} {i:Nat},allGE (pEnt m) i l=true→(∀ e∈l,I64 e.pos∧I64 e.stamp∧I64 e.client∧I64 e.id)→okPos m.frm i l
 | [],_,_,_=>trivial
 | e :: l,i,h,hr=>by
  simp only [allGE,Bool.and_eq_true] at h;refine ⟨?_,okPos_of hf hf2 h.2 fun x hx=>hr x (by simp [hx])⟩;have h1:=h.1;simp only [pEnt,Bool.and_eq_true,beq_iff_eq] at h1;obtain ⟨h2,h3⟩:=h1;simp only [mayE,Bool.and_eq_true,decide_eq_true_eq] at h2;obtain ⟨r1,r2,r3,r4⟩:=hr e (by simp);have hp:1≤e.pos:=h2.1.1.1;unfold I64 at r1 hf2;rw [wrap_i64 (by omega) (by omega)] at h3;refine ⟨?_,r2,r3,r4,by omega⟩;rw [wrap_i64 (by omega) (by omega)];omega
theorem okM_of {m:Msg} (h:mayM m=true) (r:rng m):okMm m:=by
 obtain ⟨⟨r1,r2,r3,r4,r5,r6,r7⟩,⟨r8,r9⟩,r10⟩:=r;unfold mayM at h;unfold okMm
 have ask:(mayAsk m && noneM (bareAsk m))=true→m={ msg0 with kind:=m.kind,client:=m.client,id:=m.id,body:=m.body }∧I64 m.client∧I64 m.id∧m.body.length≤65536:=fun h=>by
  simp only [mayAsk,noneM,bareAsk,Bool.and_eq_true,decide_eq_true_eq,beq_iff_eq,List.isEmpty_iff] at h;refine ⟨?_,r1,r2,by omega⟩;obtain ⟨k,c,i,b,u,f,es,hv,d,⟨ep,ms⟩,s⟩:=m;simp [msg0,cfg0] at h ⊢;obtain ⟨_,h1⟩:=h;simp_all
 split at h
 ·rename_i hk;(try simp only [hk]);exact ask h
 ·rename_i hk;(try simp only [hk])
  simp only [Bool.and_eq_true] at h;obtain ⟨h1,h2⟩:=h;have hb:=mayEnt_body h1;simp only [mayEnt,Bool.and_eq_true,decide_eq_true_eq] at h1;refine ⟨?_,r3,r4,hb.1,okPos_of h1.1.1.2 r4 h1.2 r10⟩;simp only [noneM,bareEnt,Bool.and_eq_true,beq_iff_eq,List.isEmpty_iff] at h2;obtain ⟨k,c,i,b,u,f,es,hv,d,⟨ep,ms⟩,s⟩:=m;simp [msg0,cfg0] at h2 ⊢;simp_all
 ·rename_i hk;(try simp only [hk])
  simp only [Bool.and_eq_true] at h;obtain ⟨h1,h2⟩:=h;refine ⟨?_,r5,r6⟩;simp only [noneM,bareHave,Bool.and_eq_true,beq_iff_eq,List.isEmpty_iff] at h2;obtain ⟨k,c,i,b,u,f,es,hv,d,⟨ep,ms⟩,s⟩:=m;simp [msg0,cfg0] at h2 ⊢;simp_all
 ·rename_i hk;(try simp only [hk])
  simp only [Bool.and_eq_true] at h;obtain ⟨h1,h2⟩:=h;have hc:okCf m.cfg:=⟨r8,by simp only [mayCfg,Bool.and_eq_true,decide_eq_true_eq] at h1;exact h1.1.2,r9⟩;refine ⟨?_,hc⟩;simp only [noneM,bareCfg,cfg0,Bool.and_eq_true,beq_iff_eq,List.isEmpty_iff] at h2;obtain ⟨k,c,i,b,u,f,es,hv,d,⟨ep,ms⟩,s⟩:=m;simp [msg0,cfg0] at h2 ⊢;simp_all
 ·rename_i hk;(try simp only [hk])
  simp only [Bool.and_eq_true] at h;obtain ⟨h1,h2⟩:=h;refine ⟨?_,r7⟩;simp only [noneM,bareWhole,Bool.and_eq_true,beq_iff_eq,List.isEmpty_iff] at h2;obtain ⟨k,c,i,b,u,f,es,hv,d,⟨ep,ms⟩,s⟩:=m;simp [msg0,cfg0] at h2 ⊢;simp_all
 ·rename_i hk;(try simp only [hk]);exact ask h
 ·cases h
theorem readM_eq (b:List UInt8):readM b=msgR (newR b):=rfl
theorem newR_ok {b:List UInt8} (h:b.length≤65536):newR b=(0,b):=by unfold newR;rw [if_neg (by omega)]
theorem read_form {m:Msg} {c:List UInt8} (h:mayM m=true) (r:rng m) (hl:(formM m ++ c).length≤65536):readM (formM m ++ c)=(m,(0,c)):=by
 rw [readM_eq,newR_ok hl];exact cod_msg.fwd m c (okM_of h r)
theorem parse_form {m:Msg} (h:mayM m=true) (r:rng m):parseM (formM m)=(m,0):=by
 have h1:=read_form (c:=[]) h r (by rw [List.append_nil];exact formM_length h);rw [List.append_nil] at h1;unfold parseM;rw [h1,if_pos ⟨by simp [endR],h⟩]
theorem dmfold_len:∀ l:List Entry,((l.map restF).flatten).length≤28 * l.length + (l.map fun e=>e.body.length).sum
 | []=>by simp
 | e :: l=>by have:=dmfold_len l;simp [restF_length] at *;omega
theorem wA16 {G G':Prop} (K:G') (h:G'→G:=by (intro kz;(with_reducible apply AP.k_any);first|exact AP.A kz|exact AP.AB 0 kz|exact AP.AB 1 kz|exact AP.AL kz)):G:=h K
theorem dmform_ac (m:Msg) (hs:m.small) (hsum:m.entries.length≤1000000∧∀ e∈m.entries,e.body.length≤1000000) (hE:(m.entries.map fun e=>e.body.length).sum≤1000000) (hb:m.body.length≤1000000) (hc:m.cfg.members.length≤1000000):AC Tryz.prog 60 [.ag (eG m)] [] (fun v bs'=>v=bs (some tU) (formM m)∧bs'=[]):=by
 unfold formM fieldF;have h3:=(dbytes_ac m.body (by omega)).ro (r2:=bs none (putS m.body.length 4 ++ m.body)) (by simp only [AV.ro,ro_B]);have h4:=(dconfig_ac m.cfg hc).ro (r2:=bs none (configF m.cfg)) (by simp only [AV.ro,ro_B]);rcases kind_cases m.kind with hk|hk|hk|hk|hk|hk|hk
 case inr.inl=>
  have hk':=congrArg Int.ofNat hk;simp only [Int.ofNat_eq_natCast] at hk';simp only [hk,entF];have h1:=numbers_ac [m.upto,m.frm,m.entries.length] (by simp);have l1:(numS [m.upto,m.frm,(m.entries.length:Int)]).length=24:=by simp [numS_length]
  refine AC.N Tryz.func60 Tryz.ntmps60 ?_;intro X hρ hmks;refine NX ?_;simp only [hk',eG,U];refine CP.gh gh_slot ?_;refine NX ?_
  refine CP.gh gh_slot ?_;refine NX ?_
  refine CP.gh gh_slot ?_;refine NX ?_
  repeat' (first|((first|refine wA4 ?_|((with_reducible apply AP.k_any);first|refine AP.E ?_)|(refine GV ?_;intro c hnil;simp only [nz])|refine wA16 ?_)<;>(try refine NX ?_))|refine wT4 ?_|with_reducible intro Q' hQ'|(refine GC ?_;refine ⟨fun hc=>?_,fun hc=>?_⟩)|simp only [la])
  have hr:∀ l:List Entry,(∀ e∈l,e.body.length≤1000000)→l.length≤1000000→((l.map restF).flatten).length≤28 * l.length + (l.map fun e=>e.body.length).sum:=fun l _ _=>dmfold_len l
  have ht:∀ i,((m.entries.take i).map fun e=>e.body.length).sum≤1000000:=fun i=>by
   have h:(m.entries.map fun e=>e.body.length).sum=((m.entries.take i).map fun e=>e.body.length).sum + ((m.entries.drop i).map fun e=>e.body.length).sum:=by
    rw [←List.sum_append,←List.map_append,List.take_append_drop]
   omega
  refine cp_loopS [3,4,39,40,41,42,43,44,45,46,47,48,49,50,51,52,53] (fun a:Nat×Nat×Nat=>m.entries.length - a.1) (fun a=>a.1≤m.entries.length) (fun a=>[(4,I a.1),(3,.hd 1 a.2.1)]) (fun a=>[(1,⟨a.2.1,.r tU 1 ([.sc (.int .u8 ((2:Nat):Int))] :: (numS [m.upto,m.frm,(m.entries.length:Int)] ++ ((m.entries.take a.1).map restF).flatten).map eB)⟩),(3,⟨a.2.2,.x⟩)]) (0,2,1) (Nat.zero_le _) (by (simp only [List.take_zero,List.map_nil,List.flatten_nil,List.append_nil]);exact Gh.W) ?_;rintro ⟨i,u,v⟩ hi;simp only [setT,deT,setB,List.set_cons_succ,List.set_cons_zero];dsimp only at hi
  by_cases hlt:i < m.entries.length
  ·have hw:IntKind.i64.wrap ((i:Int) + 1)=((i + 1:Nat):Int):=wrap_i64 (by omega) (by omega);have hbe:=hsum.2 _ (List.getElem_mem hlt);have h2:=drest_ac m.entries[i] (by omega)
   have hstep:numS [m.upto,m.frm,(m.entries.length:Int)] ++ ((m.entries.take (i + 1)).map restF).flatten=numS [m.upto,m.frm,(m.entries.length:Int)] ++ ((m.entries.take i).map restF).flatten ++ restF m.entries[i]:=by
    rw [List.take_succ_eq_append_getElem hlt,List.map_append,List.flatten_append];simp
   have hn:(numS [m.upto,m.frm,(m.entries.length:Int)] ++ ((m.entries.take i).map restF).flatten).length≤300000000:=by
    have:=dmfold_len (m.entries.take i);have h3:=ht i;rw [List.length_append,l1];rw [List.length_take] at this;omega
   generalize hA:numS [m.upto,m.frm,(m.entries.length:Int)] ++ ((m.entries.take i).map restF).flatten=A at hn hstep ⊢
   have hl:([AV.sc (.int .u8 ((2:Nat):Int))] :: A.map eB).length + ((restF m.entries[i]).map eB).length≤1000000000:=by
    simp only [List.length_cons,List.length_map,restF_length];omega
   repeat' (first|((first|refine wA4 ?_|((with_reducible apply AP.k_any);first|refine AP.E ?_)|(refine GV ?_;intro c hnil;simp only [nz])|refine wA16 ?_)<;>(try refine NX ?_))|refine wT4 ?_|with_reducible intro Q' hQ'|(refine GC ?_;refine ⟨fun hc=>?_,fun hc=>?_⟩)|simp only [la])
   ·simp only [hw];exact ⟨(i + 1,u + 1,v + 1),by (first|omega|(dsimp only;omega)),by (first|omega|(dsimp only;omega)),by (dsimp only;rw [hstep,List.map_append (l₁:=A)];exact Gh.W)⟩
   ·exfalso;(repeat (rename AC _ _ _ _ _=>hzz;clear hzz));simp at *;omega
  ·obtain rfl:i=m.entries.length:=by omega
   rw [List.take_length]
   repeat' (first|((first|refine wA4 ?_|((with_reducible apply AP.k_any);first|refine AP.E ?_)|(refine GV ?_;intro c hnil;simp only [nz])|refine wA16 ?_)<;>(try refine NX ?_))|refine wT4 ?_|with_reducible intro Q' hQ'|(refine GC ?_;refine ⟨fun hc=>?_,fun hc=>?_⟩)|simp only [la])
   ·exfalso;(repeat (rename AC _ _ _ _ _=>hzz;clear hzz));simp at *
   ·(refine RetQ.B [] ?_;(try dsimp only [resV,List.getD_cons_succ,List.getD_cons_zero]);(exact ⟨by simp [eB,U,hk],rfl⟩))
 case inr.inr.inr.inr.inr.inr=>
  have e:fieldF m=[]:=by unfold fieldF;split<;>first|omega|rfl
  unfold fieldF at e;rw [e];refine AC.N Tryz.func60 Tryz.ntmps60 ?_;intro X hρ hmks;refine NX ?_
  repeat' (first|((first|refine wA4 ?_|((with_reducible apply AP.k_any);first|refine AP.E ?_)|(refine GV ?_;intro c hnil;simp only [nz])|refine wA16 ?_)<;>(try refine NX ?_))|refine wT4 ?_|with_reducible intro Q' hQ'|(refine GC ?_;refine ⟨fun hc=>?_,fun hc=>?_⟩)|simp only [la])
  all_goals try (exfalso;(repeat (rename AC _ _ _ _ _=>hzz;clear hzz));simp at *;omega)
  (refine RetQ.B [] ?_;(try dsimp only [resV,List.getD_cons_succ,List.getD_cons_zero]);(exact ⟨rfl,rfl⟩))
 case inl=>
  have hk':=congrArg Int.ofNat hk;simp only [Int.ofNat_eq_natCast] at hk';simp only [hk,askF];have h1:=numbers_ac [m.client,m.id] (by simp);have l1:(numS [m.client,m.id]).length≤16:=by simp [numS_length]
  have g3:(putS m.body.length 4).length=4:=by simp [putS_length]
  have g4:(configF m.cfg).length≤17000016:=by rw [configF_length];omega
  refine AC.N Tryz.func60 Tryz.ntmps60 ?_;intro X hρ hmks;refine NX ?_;simp only [hk',eG,U];refine CP.gh gh_slot ?_;refine NX ?_
  refine CP.gh gh_slot ?_;refine NX ?_
  refine CP.gh gh_slot ?_;refine NX ?_
  repeat' (first|((first|refine wA4 ?_|((with_reducible apply AP.k_any);first|refine AP.E ?_)|(refine GV ?_;intro c hnil;simp only [nz])|refine wA16 ?_)<;>(try refine NX ?_))|refine wT4 ?_|with_reducible intro Q' hQ'|(refine GC ?_;refine ⟨fun hc=>?_,fun hc=>?_⟩)|simp only [la])
  (refine RetQ.B [] ?_;(try dsimp only [resV,List.getD_cons_succ,List.getD_cons_zero]);(exact ⟨by simp [eB,U,hk],rfl⟩))
 case inr.inr.inl=>
  have hk':=congrArg Int.ofNat hk;simp only [Int.ofNat_eq_natCast] at hk';simp only [hk,askF];have h1:=numbers_ac [m.have_,m.done] (by simp);have l1:(numS [m.have_,m.done]).length≤16:=by simp [numS_length]
  have g3:(putS m.body.length 4).length=4:=by simp [putS_length]
  have g4:(configF m.cfg).length≤17000016:=by rw [configF_length];omega
  refine AC.N Tryz.func60 Tryz.ntmps60 ?_;intro X hρ hmks;refine NX ?_;simp only [hk',eG,U];refine CP.gh gh_slot ?_;refine NX ?_
  refine CP.gh gh_slot ?_;refine NX ?_
  refine CP.gh gh_slot ?_;refine NX ?_
  repeat' (first|((first|refine wA4 ?_|((with_reducible apply AP.k_any);first|refine AP.E ?_)|(refine GV ?_;intro c hnil;simp only [nz])|refine wA16 ?_)<;>(try refine NX ?_))|refine wT4 ?_|with_reducible intro Q' hQ'|(refine GC ?_;refine ⟨fun hc=>?_,fun hc=>?_⟩)|simp only [la])
  (refine RetQ.B [] ?_;(try dsimp only [resV,List.getD_cons_succ,List.getD_cons_zero]);(exact ⟨by simp [eB,U,hk],rfl⟩))
 case inr.inr.inr.inl=>
  have hk':=congrArg Int.ofNat hk;simp only [Int.ofNat_eq_natCast] at hk';simp only [hk,askF];have g3:(putS m.body.length 4).length=4:=by simp [putS_length]
  have g4:(configF m.cfg).length≤17000016:=by rw [configF_length];omega
  refine AC.N Tryz.func60 Tryz.ntmps60 ?_;intro X hρ hmks;refine NX ?_;simp only [hk',eG,U];refine CP.gh gh_slot ?_;refine NX ?_
  refine CP.gh gh_slot ?_;refine NX ?_
  refine CP.gh gh_slot ?_;refine NX ?_
  repeat' (first|((first|refine wA4 ?_|((with_reducible apply AP.k_any);first|refine AP.E ?_)|(refine GV ?_;intro c hnil;simp only [nz])|refine wA16 ?_)<;>(try refine NX ?_))|refine wT4 ?_|with_reducible intro Q' hQ'|(refine GC ?_;refine ⟨fun hc=>?_,fun hc=>?_⟩)|simp only [la])
  (refine RetQ.B [] ?_;(try dsimp only [resV,List.getD_cons_succ,List.getD_cons_zero]);(exact ⟨by simp [eB,U,hk],rfl⟩))
 case inr.inr.inr.inr.inl=>
  have hk':=congrArg Int.ofNat hk;simp only [Int.ofNat_eq_natCast] at hk';simp only [hk,askF];have h1:=numbers_ac [m.since] (by simp);have l1:(numS [m.since]).length≤16:=by simp [numS_length]
  have g3:(putS m.body.length 4).length=4:=by simp [putS_length]
  have g4:(configF m.cfg).length≤17000016:=by rw [configF_length];omega
  refine AC.N Tryz.func60 Tryz.ntmps60 ?_;intro X hρ hmks;refine NX ?_;simp only [hk',eG,U];refine CP.gh gh_slot ?_;refine NX ?_
  refine CP.gh gh_slot ?_;refine NX ?_
  refine CP.gh gh_slot ?_;refine NX ?_
  repeat' (first|((first|refine wA4 ?_|((with_reducible apply AP.k_any);first|refine AP.E ?_)|(refine GV ?_;intro c hnil;simp only [nz])|refine wA16 ?_)<;>(try refine NX ?_))|refine wT4 ?_|with_reducible intro Q' hQ'|(refine GC ?_;refine ⟨fun hc=>?_,fun hc=>?_⟩)|simp only [la])
  (refine RetQ.B [] ?_;(try dsimp only [resV,List.getD_cons_succ,List.getD_cons_zero]);(exact ⟨by simp [eB,U,hk],rfl⟩))
 case inr.inr.inr.inr.inr.inl=>
  have hk':=congrArg Int.ofNat hk;simp only [Int.ofNat_eq_natCast] at hk';simp only [hk,askF];have h1:=numbers_ac [m.client,m.id] (by simp);have l1:(numS [m.client,m.id]).length≤16:=by simp [numS_length]
  have g3:(putS m.body.length 4).length=4:=by simp [putS_length]
  have g4:(configF m.cfg).length≤17000016:=by rw [configF_length];omega
  refine AC.N Tryz.func60 Tryz.ntmps60 ?_;intro X hρ hmks;refine NX ?_;simp only [hk',eG,U];refine CP.gh gh_slot ?_;refine NX ?_
  refine CP.gh gh_slot ?_;refine NX ?_
  refine CP.gh gh_slot ?_;refine NX ?_
  repeat' (first|((first|refine wA4 ?_|((with_reducible apply AP.k_any);first|refine AP.E ?_)|(refine GV ?_;intro c hnil;simp only [nz])|refine wA16 ?_)<;>(try refine NX ?_))|refine wT4 ?_|with_reducible intro Q' hQ'|(refine GC ?_;refine ⟨fun hc=>?_,fun hc=>?_⟩)|simp only [la])
  (refine RetQ.B [] ?_;(try dsimp only [resV,List.getD_cons_succ,List.getD_cons_zero]);(exact ⟨by simp [eB,U,hk],rfl⟩))
abbrev tDp:TypeId:=86
abbrev obD (y:De):List AV:=[.ob tDe (deC y)]
abbrev dsR (L:List De):Bx:=.r tDp 1 (L.map obD)
def prs (root:List UInt8) (n:Nat):List De:=(List.range n).map fun (i:Nat)=>(⟨root,(i:Int),1,[]⟩:De)
theorem prs_succ (root:List UInt8) (n:Nat):(prs root (n + 1)).map obD=(prs root n).map obD ++ [obD ⟨root,(n:Int),1,[]⟩]:=by
 unfold prs;rw [List.range_succ,List.map_append,List.map_append];rfl
theorem prs_len (root:List UInt8) (n:Nat):(prs root n).length=n:=by simp [prs]
theorem peers_ac (root:List UInt8) (hr:root.length≤100000000):AC Tryz.prog 10 [bs none root] [] (fun v bs'=>v=.sl (some tDp) 1 ((prs root 10).map obD)∧bs'=[]):=by
 refine AC.N Tryz.func10 Tryz.ntmps10 ?_;intro X hρ hmks;refine NX ?_
 repeat' (first|((first|refine wA1 ?_|(refine GA ?_;refine ⟨fun hg=>?_,fun hg=>?_⟩)|(refine GV ?_;intro c hnil;simp only [nz])|refine wA2 ?_)<;>(try refine NQ ?_))|refine wT3 ?_|with_reducible intro Q' hQ'|(refine GC ?_;refine ⟨fun hc=>?_,fun hc=>?_⟩)|simp only [la])
 refine CP.gh (gh_nil (t:=3) (e:=tDp) (k:=1) rfl) ?_;refine NX ?_;iterate 3 refine CP.SL ?_
 refine cp_loopS [3,4,5,6,7,8,9,10,11,12,13,14] (fun a:Nat=>10 - a) (fun a=>a≤10) (fun a=>[(4,I a),(3,.hd 0 (a + 1))])
  (fun a=>[(0,⟨a + 1,.r tDp 1 ((prs root a).map obD)⟩),(1,⟨2 * a,.x⟩),(2,⟨a,.x⟩),(3,⟨0,.x⟩)]) 0 (Nat.zero_le _) (by exact Gh.W) ?_
 intro a ha;simp only [setT,deT,setB,List.set_cons_succ,List.set_cons_zero]
 by_cases hlt:a < 10
 ·have q1:decide ((a:Int) < 10)=true:=by simp;omega
  have q2:IntKind.i64.wrap ((a:Int) + 1)=((a + 1:Nat):Int):=wrap_i64 (by omega) (by omega);have n1:=dnew19_ac root a 1 hr;have hx:=prs_succ root a;have hll:((prs root a).map obD).length + 1≤1000000000:=by rw [List.length_map,prs_len];omega
  repeat' (first|((first|refine wA14 ?_|(refine GA ?_;refine ⟨fun hg=>?_,fun hg=>?_⟩)|((with_reducible apply AP.k_any);refine AP.BP ?_)|refine aC3 n1 ?_|refine wA15 ?_|(refine GV ?_;intro c hnil;simp only [nz])|refine wA2 ?_)<;>(try simp only [q1,q2,nq,Nat.reduceBEq,Nat.reduceAdd,Nat.reduceSub]))|refine wT3 ?_|with_reducible intro Q' hQ'|(refine GC ?_;refine ⟨fun hc=>?_,fun hc=>?_⟩)|simp only [la])
  refine ⟨a + 1,by omega,by omega,?_⟩;simp only [hx];exact Gh.W
 ·obtain rfl:a=10:=by omega
  have q1:decide (((10:Nat):Int) < 10)=false:=rfl
  repeat' (first|((first|refine wA1 ?_|(refine GA ?_;refine ⟨fun hg=>?_,fun hg=>?_⟩)|(refine GV ?_;intro c hnil;simp only [nz])|refine wA2 ?_)<;>(try simp only [q1,nq,Nat.reduceBEq,Nat.reduceAdd,Nat.reduceSub]))|refine wT3 ?_|with_reducible intro Q' hQ'|(refine GC ?_;refine ⟨fun hc=>?_,fun hc=>?_⟩)|simp only [la])
  (exact RetQ.A [] (by exact ⟨rfl,rfl⟩))
/-- a string's value -/
abbrev str (l:List UInt8):Value:=.string ⟨l.toArray⟩
theorem push_all:∀ (l:List UInt8) (s:ByteArray),(l.map fun b=>(b.toNat:Int)).foldl (fun r n=>r.push (UInt8.ofNat n.toNat)) s=⟨s.data ++ l.toArray⟩
 | [],s=>by simp
 | b :: l,s=>by
  rw [List.map_cons,List.foldl_cons,push_all l];simp [ByteArray.push]
section
variable {w w':World} {φ:Fi} {κ:Ka} {R:Nat→Prop} {P:Program}
theorem re_inv:∀ {l:List UInt8} {us:List Value} {S:Ct},RE w φ κ R 1 (l.map eB) us S→us=(l.map fun b=>(b.toNat:Int)).map (Value.int .u8)
 | [],_,_,h=>by rw [RE.nils h];rfl
 | b :: l,_,_,h=>by
  rw [List.map_cons] at h
  cases h with
  | cons h1 h2 h3 h4 h5=>
   rw [re_inv h4]
   cases h1 with
   | cons a1 a2 a3=>
    cases a2
    cases a1
    rfl
theorem bytes_run {oo:Option TypeId} {l:List UInt8} {v:Value} {S:Ct} (h:RV w φ κ R (.sl oo 1 (l.map eB)) v S) (hk:∀ x,R x∨S x≠0→w'.heap[x]? = w.heap[x]?):(Conv.bytesToString v).run P w'=.ok (str l) w':=by
 have h1:=RV.ro_ h;have e0:(AV.sl oo 1 (l.map eB)).ro=.sl none 1 (l.map eB):=by simp only [AV.ro,ro_B]
 rw [e0] at h1;generalize hr:l.map eB=rows at h1
 cases h1 with
 | ni=>
  obtain rfl:l=[]:=by cases l;rfl;cases hr
  simp [Conv.bytesToString,str];rfl
 | ne=>
  obtain rfl:l=[]:=by cases l;rfl;cases hr
  have:=run_bytesToString (P:=P) w' (by assumption) 0 0 [] (by simp [loadCells,loadCellsFrom]);exact this
 | @ro _ _ b o c us he hl hc hR hcell=>
  subst hr;have hus:=re_inv he
  by_cases hn:l=[]
  ·subst hn;have:=run_bytesToString (P:=P) w' ⟨b,o,none⟩ 0 c [] (by simp [loadCells,loadCellsFrom]);exact this
  ·have hne:l.map eB≠[]:=by simpa using hn
   have hb:=hk b (hR hne)
   have hld:=run_loadCells_list (P:=P) (w:=w') ⟨b,o,none⟩ us fun j v hj=>by
    have:=hcell j v hj
    have e:(⟨b,o,none⟩:Addr).add j=⟨b,o + j,none⟩:=by
     unfold Addr.add;split
     ·rename_i h0;subst h0;rfl
     ·rfl
    rw [e,World.cell?_of_block (a:=⟨b,o + j,none⟩) hb];exact this
   have hlen:us.length=(l.map eB).length:=by rw [hus];simp
   rw [hlen] at hld;rw [hus] at hld;have:=run_bytesToString (P:=P) w' ⟨b,o,none⟩ (l.map eB).length c _ hld;rw [push_all] at this;rw [this];simp [str]
end
section
variable {X:Cx} {s:AS} {ops:Array Oper} {rest:List Oper} {o:Oper} {Q:Exit→AS→Prop} {T U e:Nat} {x:Operand} {l:List UInt8} {it iu ie:TI}
theorem pq_str (ho:o.op=.convert T U x) (hx:aev s x=.sl none 1 (l.map eB)) (hT:tt[T]? = some it) (hk:it.kd=.sl e) (he:tt[e]? = some ie) (hke:ie.kd=.it .u8) (hU:tt[U]? = some iu) (hku:iu.kd=.sr):Pq Tryz.prog X s o (.sc (str l)):=.of_run fun X φ κ f a w h=>by
 have h1:=h.evs hx;obtain ⟨A,n,c,hv⟩:=RV.sl_val h1;refine ⟨_,.sc rfl,fun w' hw=>?_⟩;have key:=bytes_run (w':=w') (P:=Tryz.prog) h1 fun x hx=>hw.block _ (h.blk (.inl (hx.elim id fun h=>absurd rfl h)))
 rw [hv] at key;simp only [execOp,ho,hv,Sem.run_bind,run_convert_bytes_string w' T U e A n c (ty_sl hT hk) (ty_it he hke) (ty_sr hU hku),key];rfl
/-- are two strings the same -/
theorem pq_seq {bo:BinOp} {T':TypeId} {y:Operand} {m:List UInt8} {r:Bool} (ho:o.op=.binOp bo T x y T') (hx:aev s x=.sc (str l)) (hy:aev s y=.sc (str m)) (hT:tt[T]? = some it) (hk:it.kd=.sr) (hr:nilB bo (decide (l=m))=some r):Pq Tryz.prog X s o (.sc (.bool r)):=.of_run fun X φ κ f a w h=>by
 have h1:=h.evc hx;have h2:=h.evc hy;refine ⟨_,.sc rfl,fun w' hw=>?_⟩;have e0:(⟨l.toArray⟩:ByteArray).toList=l:=by simp [ByteArray.toList_eq]
 have e1:(⟨m.toArray⟩:ByteArray).toList=m:=by simp [ByteArray.toList_eq]
 simp only [execOp,ho,h1,h2];have e2:(l == m)=decide (l=m):=by rw [Bool.eq_iff_iff];simp
 cases bo<;>cases hr<;>simp [eqGuard,binOp,Op.stringOp,e0,e1,e2,go_sem]
end
section
variable {X:Cx} {s:AS} {ops:Array Oper} {rest:List Oper} {Q:Exit→AS→Prop} {T U e:Nat} {x y:Operand} {l m:List UInt8} {it iu ie:TI} {d:Option Nat} {ty:Nat} {pos:String} {aft:Array Edge}
theorem AP.SS1 (K:AP Tryz.prog X ops Q rest (s.put d (.sc (str l)))) (hx:aev s x=.sl none 1 (l.map eB):=by exact rfl) (hT:tt[T]? = some it:=by exact rfl) (hk:it.kd=.sl e:=by exact rfl) (he:tt[e]? = some ie:=by exact rfl) (hke:ie.kd=.it .u8:=by exact rfl) (hU:tt[U]? = some iu:=by exact rfl) (hku:iu.kd=.sr:=by exact rfl):AP Tryz.prog X ops Q (⟨d,.convert T U x,ty,pos,aft,none⟩ :: rest) s:=AP.pure rfl (pq_str rfl hx hT hk he hke hU hku) K
theorem AP.SQ {bo:BinOp} {T':TypeId} {r:Bool} (K:AP Tryz.prog X ops Q rest (s.put d (.sc (.bool r)))) (hx:aev s x=.sc (str l):=by exact rfl) (hy:aev s y=.sc (str m):=by exact rfl) (hT:tt[T]? = some it:=by exact rfl) (hk:it.kd=.sr:=by exact rfl) (hr:nilB bo (decide (l=m))=some r:=by exact rfl):AP Tryz.prog X ops Q (⟨d,.binOp bo T x y T',ty,pos,aft,none⟩ :: rest) s:=AP.pure rfl (pq_seq rfl hx hy hT hk hr) K
/-- one step with strings -/
theorem AP.SS {G G':Prop} (K:G') (h:G'→G:=by (intro k;first|exact AP.SS1 k|exact AP.SQ k|exact AP.CS k)):G:=h K
end
theorem wA17 {G G':Prop} (K:G') (h:G'→G:=by (intro kz;(with_reducible apply AP.k_any);exact AP.SS kz)):G:=h K
theorem wtext_ac (st:Bool×List UInt8) (t:List UInt8) (hst:st.2.length≤65536) (ht:t.length≤1000000) :
 AC Tryz.prog 131 [.bp 0 0 0,.sc (str t)] [wB st] (fun v bs'=>v=.bp 0 0 0∧bs'=[wB (addS (addS st (putS t.length 4)) t)]):=by
 have h1:=wbytes_ac st t hst (by omega);have hn:(⟨t.toArray⟩:ByteArray).size≤1000000:=by show t.toArray.size≤_;simpa using ht
 refine AC.N Tryz.func131 Tryz.ntmps131 ?_;intro X hρ hmks;refine NX ?_;refine CP.gh gh_slot ?_;refine NX ?_
 repeat' (first|((first|refine wA1 ?_|(refine GA ?_;refine ⟨fun hg=>?_,fun hg=>?_⟩)|(refine GV ?_;intro c hnil;simp only [nz])|refine wA17 ?_|refine wA2 ?_)<;>(try refine NQ ?_))|refine wT3 ?_|with_reducible intro Q' hQ'|(refine GC ?_;refine ⟨fun hc=>?_,fun hc=>?_⟩)|simp only [la])
 (exact RetQ.A [(0,0)] (by exact ⟨rfl,rfl⟩))
abbrev tPl:TypeId:=139
abbrev tIn:TypeId:=3
/-- keys and their values, in order -/
abbrev Wt:=List (Int×List UInt8)
abbrev kI (n:Int):Value:=.int .i64 n
abbrev wKs (l:Wt):List (List AV):=(l.map (·.1)).map eI
abbrev wKv (l:Wt):List Value:=l.map fun p=>kI p.1
abbrev wVs (l:Wt):List (List AV):=l.map fun p=>[bs none p.2]
abbrev plC (n:Int) (l:Wt):List AV:=[I n,.sl (some tIn) 1 (wKs l),.mo (wKv l) (wVs l)]
abbrev plX (n:Int) (l:Wt):Bx:=.c tPl (plC n l)
theorem kinI {α:Type} (l:List (Int×α)):∀ k∈l.map (fun p=>kI p.1),isKey Tryz.prog tIn [.i .i64] k=true:=fun k hk=>by
 obtain ⟨p,_,rfl⟩:=List.mem_map.1 hk;have hA:aggT Tryz.prog tIn=false:=by kernel_rfl
 unfold isKey;rw [hA];rfl
theorem kEq_kI (a b:Int):kEq (kI a) (kI b)=decide (a=b):=by
 simp only [kEq,eqVs,eqV1];rw [Bool.eq_iff_iff];simp
/-- where a key stands -/
def atI (k:Int):Wt→Option Nat
 | []=>none
 | p :: l=>if k=p.1 then some 0 else (atI k l).map (· + 1)
theorem fnd_atI (k:Int):∀ l:Wt,fnd (kI k) (wKv l)=atI k l
 | []=>rfl
 | p :: l=>by
  simp only [wKv,List.map_cons,fnd,kEq_kI,atI];have:=fnd_atI k l;simp only [wKv] at this;rw [this]
  by_cases h:k=p.1
  ·simp [h]
  ·simp only [h,decide_false,if_false]
   cases atI k l<;>rfl
theorem atI_some {k:Int}:∀ {l:Wt} {n:Nat},atI k l=some n→∃ b,l[n]? = some (k,b)
 | [],_,h=>by simp [atI] at h
 | p :: l,n,h=>by
  unfold atI at h;split at h
  ·rename_i hs;injection h with h;subst h;exact ⟨p.2,by simp [hs]⟩
  ·obtain ⟨m,hm,rfl⟩:=Option.map_eq_some_iff.1 h;obtain ⟨x,hx⟩:=atI_some hm;exact ⟨x,by simpa using hx⟩
/-- what waits for a key -/
def wGet (l:Wt) (k:Int):Option (List UInt8):=match atI k l with
 | some n=>(l[n]?).map (·.2)
 | none=>none
def wTake (l:Wt) (k:Int):Wt:=match atI k l with
 | some n=>l.eraseIdx n
 | none=>l
theorem pnone_ac (n:Int) (l:Wt):AC Tryz.prog 75 [.bp 0 0 0] [plX n l] (fun v bs'=>v=B false∧bs'=[plX n l]):=by
 refine AC.N Tryz.func75 Tryz.ntmps75 ?_;intro X hρ hmks;refine NX ?_;refine W1 ?_;(exact RetQ.A [(0,0)] (by exact ⟨rfl,rfl⟩))
theorem pget_ac (n:Int) (l:Wt) (k:Int):AC Tryz.prog 43 [.bp 0 0 0,I k] [plX n l] (fun v bs'=>v=.tu [bs none ((wGet l k).getD []),B (wGet l k).isSome]∧bs'=[plX n l]):=by
 have h1:=pnone_ac n l;have hk:=kinI l;have hf:=fnd_atI k l
 cases ha:atI k l with
 | none=>
  have e:wGet l k=none:=by unfold wGet;rw [ha]
  rw [e];rw [ha] at hf;refine AC.N Tryz.func43 Tryz.ntmps43 ?_;intro X hρ hmks;refine NX ?_;refine CP.SL ?_;refine CP.SL ?_;refine CP.SL ?_
  repeat' (first|((first|refine wA1 ?_|(refine GA ?_;refine ⟨fun hg=>?_,fun hg=>?_⟩)|(refine GV ?_;intro c hnil;simp only [nz])|refine wA2 ?_)<;>(try refine NQ ?_))|refine wT3 ?_|with_reducible intro Q' hQ'|(refine GC ?_;refine ⟨fun hc=>?_,fun hc=>?_⟩)|simp only [la])
  (exact RetQ.A [(0,0)] (by exact ⟨rfl,rfl⟩))
 | some m=>
  obtain ⟨b,hb⟩:=atI_some ha;have e:wGet l k=some b:=by unfold wGet;rw [ha];dsimp only;rw [hb];rfl
  have hr:rowAt (wVs l) none m=some (bs none b):=rowAt_map (e:=fun p:Int×List UInt8=>[bs none p.2]) (a:=bs none b) (r:=[]) hb rfl;rw [e];rw [ha] at hf;refine AC.N Tryz.func43 Tryz.ntmps43 ?_;intro X hρ hmks;refine NX ?_;refine CP.SL ?_;refine CP.SL ?_;refine CP.SL ?_
  repeat' (first|((first|refine wA1 ?_|(refine GA ?_;refine ⟨fun hg=>?_,fun hg=>?_⟩)|(refine GV ?_;intro c hnil;simp only [nz])|refine wA2 ?_)<;>(try refine NQ ?_))|refine wT3 ?_|with_reducible intro Q' hQ'|(refine GC ?_;refine ⟨fun hc=>?_,fun hc=>?_⟩)|simp only [la])
  (exact RetQ.A [(0,0)] (by exact ⟨rfl,rfl⟩))
theorem pnew_ac (n:Int) (hn:0≤n):AC Tryz.prog 23 [I n] [] (fun v bs'=>v=.bp 0 0 0∧bs'=[plX n []]):=by
 have hm:(if n < 0 then (0:Int) else n)=n:=by rw [if_neg (by omega)]
 refine AC.N Tryz.func23 Tryz.ntmps23 ?_;intro X hρ hmks;refine NX ?_;refine CP.SL ?_;refine CP.SL ?_;refine CP.SL ?_
 repeat' (first|((first|refine wA1 ?_|(refine GA ?_;refine ⟨fun hg=>?_,fun hg=>?_⟩)|(refine GV ?_;intro c hnil;simp only [nz])|refine wA2 ?_)<;>(try simp only [hm,nq,Nat.reduceBEq,Nat.reduceAdd,Nat.reduceSub]))|refine wT3 ?_|with_reducible intro Q' hQ'|(refine GC ?_;refine ⟨fun hc=>?_,fun hc=>?_⟩)|simp only [la])
 (exact RetQ.A [(1,1)] (by exact ⟨rfl,rfl⟩))
theorem pfull_ac (n:Int) (l:Wt):AC Tryz.prog 71 [.bp 0 0 0] [plX n l] (fun v bs'=>v=B (decide (n≤(l.length:Int)))∧bs'=[plX n l]):=by
 have h1:=pnone_ac n l;refine AC.N Tryz.func71 Tryz.ntmps71 ?_;intro X hρ hmks;refine NX ?_;refine CP.SL ?_;refine CP.SL ?_;refine CP.SL ?_
 repeat' (first|((first|refine wA1 ?_|(refine GA ?_;refine ⟨fun hg=>?_,fun hg=>?_⟩)|(refine GV ?_;intro c hnil;simp only [nz])|refine wA2 ?_|refine wD3 ?_)<;>(try refine NQ ?_))|refine wT2 ?_|with_reducible intro Q' hQ'|(refine GC ?_;refine ⟨fun hc=>?_,fun hc=>?_⟩)|simp only [la])
 (exact RetQ.A [(0,0)] (by exact ⟨rfl,rfl⟩))
theorem pput_ac (n:Int) (l:Wt) (k:Int) (b:List UInt8) (ha:atI k l=none) (hl:(l.length:Int) < n) (hl2:l.length≤1000):AC Tryz.prog 40 [.bp 0 0 0,I k,bs none b] [plX n l] (fun v bs'=>v=B true∧bs'=[plX n (l ++ [(k,b)])]):=by
 have h1:=pget_ac n l k;have h2:=pfull_ac n l;have hk:=kinI l;have hf:=fnd_atI k l;have e:wGet l k=none:=by unfold wGet;rw [ha]
 rw [e] at h1;rw [ha] at hf;rw [decide_eq_false (by omega)] at h2;have hlk:(wKs l).length + 1≤1000000000:=by rw [List.length_map,List.length_map];omega
 have e1:wKs (l ++ [(k,b)])=wKs l ++ [[I k]]:=by simp [wKs]
 have e2:wKv (l ++ [(k,b)])=wKv l ++ [kI k]:=by simp [wKv]
 have e3:wVs (l ++ [(k,b)])=wVs l ++ [[bs none b]]:=by simp [wVs]
 unfold plX plC;rw [e1,e2,e3];clear e1 e2 e3;refine AC.N Tryz.func40 Tryz.ntmps40 ?_;intro X hρ hmks;refine NX ?_;refine CP.SL ?_;refine CP.SL ?_;refine CP.SL ?_
 repeat' (first|((first|refine wA1 ?_|(refine GA ?_;refine ⟨fun hg=>?_,fun hg=>?_⟩)|(refine GV ?_;intro c hnil;simp only [nz])|refine wA2 ?_)<;>(try refine NQ ?_))|refine wT3 ?_|with_reducible intro Q' hQ'|(refine GC ?_;refine ⟨fun hc=>?_,fun hc=>?_⟩)|simp only [la])
 (exact RetQ.A [(0,0)] (by exact ⟨rfl,rfl⟩))
section
variable {X:Cx} {s:AS} {ops:Array Oper} {rest:List Oper} {o:Oper} {Q:Exit→AS→Prop} {T e k b u e' h:Nat} {x hi:Operand} {s1:List (List AV)} {i ie:TI}
theorem pq_cutE (ho:o.op=.slice T x none (some hi) none) (hx:aev s x=.hd b u) (hs:s.b[b]? = some ⟨u,.r e' k s1⟩) (hT:tt[T]? = some i) (hk:i.kd=.sl e) (he:tt[e]? = some ie) (hhi:Bd s (some hi) 0 h) (hle:h=s1.length):Pq Tryz.prog X s o (.hd b u):=.of_run fun X φ κ f a w h0=>by
 have hv:=h0.hdv hx hs;obtain ⟨A,c,hA,hc1,hc2,hc3⟩:=hv.sl_form;have h1:=h0.evs hx
 have hi':∃ k,(some hi).map a.eval=some (.int k h):=by
  cases hhi with
  | int hx=>exact ⟨_,by rw [Option.map_some,h0.evc hx]⟩
  | lit hx hz=>subst hz;exact ⟨_,by rw [Option.map_some,h0.evc hx]⟩
 refine ⟨_,h1,fun w' _=>?_⟩;have hb:=fun w=>run_bounds (n:=s1.length) (c:=c) (l:=0) (h:=h) (m:=c) (lo:=none) (hi:=(some hi).map a.eval) (mx:=none) (.inl ⟨rfl,rfl⟩) (.inr hi') (.inl ⟨rfl,rfl⟩) (Nat.zero_le _) (by omega) (Nat.le_refl _) w
 have:=run_slice (A:=A) (n:=s1.length) (c:=c) (l:=0) (h:=h) (m:=c) (lo:=none) (hi:=(some hi).map a.eval) (mx:=none) hT hk he hb w'
 have e:(if c=0 then A else A.map (·.add (0 * ie.size)))=A:=by
  split
  ·rfl
  ·cases A<;>simp [Addr.add]
 rw [e] at this;simp only [execOp,ho,hA,Option.map_none,Sem.run_bind,this];rw [hle];rfl
end
section
variable {X:Cx} {s:AS} {ops:Array Oper} {rest:List Oper} {Q:Exit→AS→Prop} {T e k b u e' h:Nat} {x hi:Operand} {s1:List (List AV)} {i ie:TI} {d:Option Nat} {ty:Nat} {pos:String} {aft:Array Edge}
theorem AP.CE (K:AP Tryz.prog X ops Q rest (s.put d (.hd b u))) (hx:aev s x=.hd b u:=by exact rfl) (hs:s.b[b]? = some ⟨u,.r e' k s1⟩:=by exact rfl) (hT:tt[T]? = some i:=by exact rfl) (hk:i.kd=.sl e:=by exact rfl) (he:tt[e]? = some ie:=by exact rfl) (hhi:Bd s (some hi) 0 h:=by (first|exact .int rfl|exact .lit rfl rfl)) (hle:h=s1.length:=by (first|assumption|rfl|omega|simp)):AP Tryz.prog X ops Q (⟨d,.slice T x none (some hi) none,ty,pos,aft,none⟩ :: rest) s:=AP.pure rfl (pq_cutE rfl hx hs hT hk he hhi hle) K
end
section
variable {s:AS} {ops:Array Oper} {all:List Oper} {K:AS→Prop} {acc:List Fp} {l:List Oper} {av:AV} {op:Op} {ty:Nat} {pos:String} {aft:Array Edge} {g:Option (Nat×Bool)} {d:Nat} {T:List Nat} {F:List Nat} {b2:List Sl} {r:Bool}
theorem DW.RC (hk:DW Tryz.prog ops all K (⟨T,some d,F,false⟩ :: acc) l ⟨s.t.set d av,s.b⟩) (hg:gdS ops s g=some r:=by exact rfl) (hT:opTs ops ⟨some d,op,ty,pos,aft,g⟩=T:=by (simp only [ft,nm,Nat.reduceAdd,Nat.reduceBEq,List.getElem?_cons_zero,List.getElem?_cons_succ];exact rfl)) (hF:ftF 0 s op=F:=by (simp only [ft,nm,Nat.reduceAdd,Nat.reduceBEq,List.getElem?_cons_zero,List.getElem?_cons_succ];exact rfl)) (h:∀ X V,AP Tryz.prog X ops (fun e s'=>e=.normal∧s'=⟨(msT T 0 s.t).set d av,msB F V 0 s.b⟩) [⟨some d,op,ty,pos,aft,g⟩] ⟨msT T 0 s.t,msB F V 0 s.b⟩:=by (intro X V;simp only [ft,nm,Nat.reduceAdd,Nat.reduceBEq];(try (refine AP.Y ?_;dsimp only));(first|refine AP.CE ?_);(try refine NX ?_);refine AP.nil ?_;first|exact ⟨trivial,rfl⟩|exact ⟨rfl,rfl⟩)) (hy:nyF F 0 s.b=true:=by exact rfl) :
 DW Tryz.prog ops all K acc (⟨some d,op,ty,pos,aft,g⟩ :: l) s:=DW.rd 0 hT hF h hk hy
end
abbrev iS (l:List Int):List (List AV):=l.map eI
theorem iclone_ac (a:List Int) (ha:a.length≤100000000) :
 AC Tryz.prog 127 [.sl none 1 (iS a)] [] (fun v bs'=>v=.sl (some tIn) 1 (iS a)∧bs'=[]):=by
 refine AC.N Tryz.func127 Tryz.ntmps127 ?_;intro X hρ hmks;refine NX ?_
 repeat' (first|((first|refine wA4 ?_|(refine GV ?_;intro c hnil;simp only [nz]))<;>(try refine NX ?_))|refine wT4 ?_|with_reducible intro Q' hQ'|(refine GC ?_;refine ⟨fun hc=>?_,fun hc=>?_⟩)|simp only [la])
 ·obtain rfl:a=[]:=by simpa using hnil hc
  (exact RetQ.A [] (by exact ⟨rfl,rfl⟩))
 ·(refine RetQ.B [] ?_;(try dsimp only [resV,List.getD_cons_succ,List.getD_cons_zero]);(exact ⟨by simp,rfl⟩))
theorem nr_I {e:TypeId} {l:List Int}:NR (.sl (some e) 1 (l.map eI)):=NR.ow fun c hc a ha=>by
 obtain ⟨n,_,rfl⟩:=List.mem_map.1 hc;simp at ha;subst ha;exact NR.sc
section
variable {s:AS} {ops:Array Oper} {all:List Oper} {K:AS→Prop} {acc:List Fp} {l:List Oper} {av:AV} {op:Op} {ty:Nat} {pos:String} {aft:Array Edge} {g:Option (Nat×Bool)} {d:Nat} {T:List Nat} {F:List Nat} {b2:List Sl} {r:Bool}
theorem DW.AI (m:Nat) (hk:DW Tryz.prog ops all K (⟨T,some d,F,true⟩ :: acc) l ⟨s.t.set d av,b2⟩) (hg:gdS ops s g=some r:=by exact rfl) (hT:opTs ops ⟨some d,op,ty,pos,aft,g⟩=T:=by (simp only [ft,nm,Nat.reduceAdd,Nat.reduceBEq,List.getElem?_cons_zero,List.getElem?_cons_succ];exact rfl)) (hF:ftF m s op=F:=by (simp only [ft,nm,Nat.reduceAdd,Nat.reduceBEq,List.getElem?_cons_zero,List.getElem?_cons_succ];exact rfl)) (h:∀ X V,AP Tryz.prog X ops (fun e s'=>e=.normal∧s'.t=(msT T 0 s.t).set d av∧Mg F V 0 s.b s'.b b2) [⟨some d,op,ty,pos,aft,g⟩] ⟨msT T 0 s.t,msB F V 0 s.b⟩:=by (intro X V;simp only [ft,nm,Nat.reduceAdd,Nat.reduceBEq];(try (refine AP.Y ?_;dsimp only));(refine AP.AL (hnr:=nr_I) ?_);(try refine NX ?_);refine AP.nil ?_;(first|refine ⟨trivial,rfl,?_⟩|refine ⟨rfl,rfl,?_⟩);(repeat' (first|exact Mg.nil|apply Mg.keep rfl|apply Mg.take rfl));all_goals fail))
 (hb:(∃ V:Nat→Nat,∃ b1,Mg F V 0 s.b b1 b2):=by (refine Exists.intro (fun _=>0) ?_;apply Exists.intro;(repeat' (first|exact Mg.nil|apply Mg.keep rfl|apply Mg.take rfl));all_goals fail)) (hy:nyF F 0 s.b=true:=by exact rfl) (hy2:nyF F 0 b2=true:=by exact rfl):DW Tryz.prog ops all K acc (⟨some d,op,ty,pos,aft,g⟩ :: l) s:=DW.st m hT hF h hb hk hy hy2
end
theorem pfirst_ac (n:Int) (l:Wt) (hl:(l.length:Int)≤4):AC Tryz.prog 69 [.bp 0 0 0,I 4] [plX n l] (fun v bs'=>v=.sl (some tIn) 1 (iS (l.map (·.1)))∧bs'=[plX n l]):=by
 have h1:=pnone_ac n l;have h2:=iclone_ac (l.map (·.1)) (by simp;omega);have m1:(if (4:Int) < 0 then (0:Int) else 4)=4:=rfl;have m2:(if (l.length:Int) < 4 then (l.length:Int) else 4)=(l.length:Int):=by split<;>omega
 have m3:l.length=(wKs l).length:=by rw [List.length_map,List.length_map]
 refine AC.N Tryz.func69 Tryz.ntmps69 ?_;intro X hρ hmks;refine NX ?_;refine CP.SL ?_;refine CP.SL ?_;refine CP.SL ?_
 repeat' (first|((first|refine wA1 ?_|(refine GA ?_;refine ⟨fun hg=>?_,fun hg=>?_⟩)|(refine GV ?_;intro c hnil;simp only [nz])|refine wA2 ?_)<;>(try simp only [m1,m2,nq,Nat.reduceBEq,Nat.reduceAdd,Nat.reduceSub]))|refine wT6 ?_|with_reducible intro Q' hQ'|(refine GC ?_;refine ⟨fun hc=>?_,fun hc=>?_⟩)|simp only [la])
 refine cp_drawX ?_;iterate 12 (((with_reducible apply DW.k_any);refine DW.ST ?_)<;>(try simp only [m1,m2,nq,Nat.reduceBEq,Nat.reduceAdd,Nat.reduceSub]))
 refine DW.RC ?_;simp only [nq,Nat.reduceBEq,Nat.reduceAdd,Nat.reduceSub];refine DW.AI 1 ?_;simp only [nq,Nat.reduceBEq,Nat.reduceAdd,Nat.reduceSub]
 repeat' (first|((first|refine wA1 ?_|(refine GA ?_;refine ⟨fun hg=>?_,fun hg=>?_⟩)|(refine GV ?_;intro c hnil;simp only [nz])|refine wA2 ?_|refine wD3 ?_)<;>(try refine NQ ?_))|refine wT2 ?_|with_reducible intro Q' hQ'|(refine GC ?_;refine ⟨fun hc=>?_,fun hc=>?_⟩)|simp only [la])
 (exact RetQ.A [(0,0)] (by exact ⟨rfl,rfl⟩))
theorem AP.run2 {P:Program} {X:Cx} {s s':AS} {ops:Array Oper} {rest:List Oper} {o p:Oper} {Q:Exit→AS→Prop} (hg:o.guard=none) (hg2:p.guard=none)
 (h:∀ X φ κ f a w,SatW X φ κ f Ct.z s a w→∃ v w1 v2 w2 φ' κ' f',(execOp a.eval o).run P w=.ok (.value v) w1∧(execOp (a.put o.dst v).eval p).run P w1=.ok (.value v2) w2∧SatW X φ' κ' f' Ct.z s' ((a.put o.dst v).put p.dst v2) w2)
 (K:AP P X ops Q rest s'):AP P X ops Q (o :: p :: rest) s:=by
 rintro a w ⟨X',φ,κ,f,hX,hs⟩;obtain ⟨v,w1,v2,w2,φ',κ',f',hr,hr2,hs'⟩:=h X' φ κ f a w hs;exact wpL_plain hg fun K' hK'=>wpO_val hr (hK' _ _ (wpL_plain hg2 fun K2 hK2=>wpO_val hr2 (hK2 _ _ (K _ _ ⟨X',φ',κ',f',hX,hs'⟩))))
/-- `clear(x[i:])` where the array of one's own has one element from i on -/
theorem ap_clr {X:Cx} {s:AS} {ops:Array Oper} {rest:List Oper} {o p:Oper} {Q:Exit→AS→Prop} {T T' e b u i d:Nat} {x lo:Operand} {s1:List (List AV)} {old:AV} {ti ie:TI} {z:ZC}
 (hg:o.guard=none) (hg2:p.guard=none) (ho:o.op=.slice T x (some lo) none none) (hd:o.dst=some d) (hdl:d < s.t.length) (hp:p.op=.call { callee:=.builtin .clear,args:=#[.tmp d],argTypes:=#[T'] })
 (hx:aev s x=.hd b u) (hs:s.b[b]? = some ⟨u,.r e 1 s1⟩) (hT:tt[T]? = some ti) (hk:ti.kd=.sl e) (hT':(match Tryz.prog.underlying T' with|some (.slice e')=>Nat.beq e e' | _=>false)=true) (he:tt[e]? = some ie) (hn:ie.size=1) (hz:ie.zero=some [z]) (hrk:rowK ie.kd=false)
 (hlo:Bd s (some lo) 0 i) (hi:s1[i]? = some [old]) (hil:s1.length=i + 1) (ht:old.tree=false)
 (K:AP Tryz.prog X ops Q rest (AS.put (AS.put ⟨s.t,s.b.set b ⟨u,.r e 1 (s1.set i [.sc z.val])⟩⟩ o.dst .de) p.dst (.tu []))):AP Tryz.prog X ops Q (o :: p :: rest) s:=
 .run2 hg hg2 (fun X φ κ f a w h=>by
  have hlo':∃ k,(some lo).map a.eval=some (.int k i):=by
   cases hlo with
   | int hx=>exact ⟨_,by rw [Option.map_some,h.evc hx]⟩
   | lit hx hz=>subst hz;exact ⟨_,by rw [Option.map_some,h.evc hx]⟩
  have hu':Tryz.prog.underlying T'=some (.slice e):=by
   split at hT'
   ·rename_i e' he';rw [he',Nat.eq_of_beq_eq_true hT']
   ·cases hT'
  have h1:=h.evs hx;have h2:=h.sl b _ hs;have hbl:b < s.b.length:=(List.getElem?_eq_some_iff.1 hs).1;have hown:∀ x,f b x≠0→x < w.heap.size:=fun x hx=>h.blk (.inr ⟨b,hbl,hx⟩)
  have hone:∀ x,f b x≤1:=fun x=>by have:=sumF_le f x _ b hbl;have:=h.one x;omega
  generalize hS0:f b=S0 at h2 hown hone;generalize hpv:a.eval x=pv at h1
  cases h1 with
  | @hd _ _ _ hκ hoc=>
   cases h2 with
   | r hκ' hv=>
    rw [hκ] at hκ';injection hκ' with hκ';subst hκ'
    cases hv with
    | ni=>simp at hi
    | ne=>simp at hi
    | @om _ _ _ g c cur us S _ hre hh hle hm hsz htk hSx=>
     have hil2:s1.length=i + 1:=hil;have hzr:=run_zero1 he hz hrk;have hgl:g < w.heap.size:=hh.lt;have hoc1:z.val.oneCell'=true:=ZC.one _;have hpos2:i < cur.size:=by rw [hsz];omega
     have hb:=fun w=>run_bounds (n:=s1.length) (c:=c) (l:=i) (h:=s1.length) (m:=c) (lo:=(some lo).map a.eval) (hi:=none) (mx:=none) (.inr hlo') (.inl ⟨rfl,rfl,rfl⟩) (.inl ⟨rfl,rfl⟩) (by omega) (by omega) (Nat.le_refl _) w
     have hr1:(execOp a.eval o).run Tryz.prog w=.ok (.value (.slice (some ⟨g,i,none⟩) 1 (c - i))) w:=by
      have:=run_slice (A:=some ⟨g,0,none⟩) (n:=s1.length) (c:=c) (l:=i) (h:=s1.length) (m:=c) (lo:=(some lo).map a.eval) (hi:=none) (mx:=none) hT hk he hb w
      have e1:(if c=i then some (⟨g,0,none⟩:Addr) else (some (⟨g,0,none⟩:Addr)).map (·.add (i * ie.size)))=some ⟨g,i,none⟩:=by
       rw [if_neg (by omega),hn];simp [Addr.add];try (intro hq;exact hq.symm)
      rw [e1,show s1.length - i=1 by omega] at this;simp only [execOp,ho,hpv,Option.map_none,Sem.run_bind,this];rfl
     have hev:(a.put o.dst (.slice (some ⟨g,i,none⟩) 1 (c - i))).eval (.tmp d)=.slice (some ⟨g,i,none⟩) 1 (c - i):=by
      have hlen:d < a.tmps.size:=by have:=h.tm.length;rw [Array.length_toList] at this;omega
      rw [hd];simp [Act.put,Act.eval,hlen]
     have hr2:(execOp (a.put o.dst (.slice (some ⟨g,i,none⟩) 1 (c - i))).eval p).run Tryz.prog w=.ok (.value (.tuple #[])) (w.setCells g i [z.val]):=by
      have:=Lib.run_clear_slice (P:=Tryz.prog) w T' e p.type z.val hu' hzr (by generalize z.val=zv at hoc1;cases zv<;>first|rfl|(cases hoc1;done)) hoc1 g i 1 (c - i) (by omega) (fun j hj=>by
       have:j=0:=by omega
       subst this;rw [Nat.add_zero,hh.cell];simp;omega) (fun j hj=>hh.frozen (by omega))
      simp only [execOp,hp,resolve,invoke,builtin,Sem.run_bind,Sem.run_pure,Result.andThen_ok,List.map_toArray,List.map_cons,List.map_nil,hev,this,List.replicate]
     have hh':Mk (w.setCells g i [z.val]) g (cur.setIfInBounds i z.val) e:=by
      obtain ⟨q,hz1,hz2⟩:=hh;exact ⟨q,by simp [World.setCells,World.setCell,Array.getElem?_modify,hz1],by simpa using hz2⟩
     have hblkR:∀ x,X.R x→(w.setCells g i [z.val]).heap[x]? = w.heap[x]?:=fun x hx=>by
      have h3:=h.not_rd hx;have h4:=sumF_le f x _ b hbl;rw [hS0] at h4;have h5:=hSx x;have hne:x≠g:=by rintro rfl;simp at h5;omega
      exact heap_setCells_ne g _ _ w x hne
     have hblkS:∀ x,S x≠0→(w.setCells g i [z.val]).heap[x]? = w.heap[x]?:=fun x hx=>by
      have h5:=hSx x;have h6:=hone x;have hne:x≠g:=by rintro rfl;simp at h5;omega
      exact heap_setCells_ne g _ _ w x hne
     have hre2:=RE.keep hblkR (RE.set_ (av:=.sc z.val) (off:=0) hre hi rfl ht (.sc hoc1) rfl hoc1) hblkS;have hmid:SatW X φ κ f Ct.z (s.put o.dst .de) (a.put o.dst (.slice (some ⟨g,i,none⟩) 1 (c - i))) w:=h.puts o.dst .de;have hsm:(s.put o.dst .de).b=s.b:=by rw [hd];rfl
     have e9:AS.put ⟨s.t,s.b.set b ⟨u,.r e 1 (s1.set i [.sc z.val])⟩⟩ o.dst .de=⟨(s.put o.dst .de).t,s.b.set b ⟨u,.r e 1 (s1.set i [.sc z.val])⟩⟩:=by rw [hd];rfl
     rw [e9];refine ⟨_,w,_,_,φ,κ,updF f b (fun x=>(if x=g then 1 else 0) + S x),hr1,hr2,SatW.puts ?_ p.dst (RV.tu RC.nil)⟩;have hm2:=hmid.turn (w':=w.setCells g i [z.val]) (B:=.r e 1 (s1.set i [.sc z.val])) (u:=u) (g:=fun x=>(if x=g then 1 else 0) + S x) (L':=Ct.z) (j:=b) (e:=⟨u,.r e 1 s1⟩) (by rw [hsm];exact hs) (fun _ _ _ h=>h) (fun _ _ _ h=>h) (by rw [size_setCells];exact Nat.le_refl _) (os_setCells' g _ _ w) (tape_setCells g _ _ w) (out_setCells g _ _ w) ?_ (.r hκ ?_) ?_ ?_ (Nat.le_refl _) (fun _ _ _ h=>h) (fun _ _ _ h=>h)
     ·rw [hsm] at hm2;exact hm2
     ·intro x hx h0;rw [hS0] at h0;have:=hSx x;have hne:x≠g:=by rintro rfl;simp at this;omega
      exact heap_setCells_ne g _ _ w x hne
     ·have:=RV.om (e:=e) hre2 hh' (by simpa using hle) hm (by simpa using hsz) (by
       rw [Array.toList_setIfInBounds,List.take_set,List.length_set,htk];simp) (T:=fun x=>(if x=g then 1 else 0) + S x) fun _=>rfl
      simpa using this
     ·intro x hx;rw [hS0];have:=hSx x;simp only [Ct.z];omega
     ·intro x hx;simp only [Ct.z]
      have h7:S x=0:=by
       by_cases h8:S x=0
       ·exact h8
       ·have:=hown x (by rw [hSx];omega);omega
      rw [h7];split
      ·omega
      ·simp
    ) K
section
variable {X:Cx} {s:AS} {ops:Array Oper} {rest:List Oper} {Q:Exit→AS→Prop}
theorem AP.CK {T T' e b u i d:Nat} {lo:Operand} {s1:List (List AV)} {old:AV} {ti ie:TI} {z:ZC} {x:Operand} {ty ty2:Nat} {pos pos2:String} {aft aft2:Array Edge} {d2:Option Nat}
 (K:AP Tryz.prog X ops Q rest (AS.put (AS.put ⟨s.t,s.b.set b ⟨u,.r e 1 (s1.set i [.sc z.val])⟩⟩ (some d) .de) d2 (.tu []))) (hdl:Nat.blt d s.t.length=true:=by exact rfl)
 (hx:aev s x=.hd b u:=by exact rfl) (hs:s.b[b]? = some ⟨u,.r e 1 s1⟩:=by exact rfl) (hT:tt[T]? = some ti:=by exact rfl) (hk:ti.kd=.sl e:=by exact rfl) (hT':(match Tryz.prog.underlying T' with|some (.slice e')=>Nat.beq e e' | _=>false)=true:=by kernel_rfl) (he:tt[e]? = some ie:=by exact rfl) (hn:ie.size=1:=by exact rfl) (hz:ie.zero=some [z]:=by exact rfl) (hrk:rowK ie.kd=false:=by exact rfl)
 (hlo:Bd s (some lo) 0 i:=by (first|exact .int rfl|exact .lit rfl rfl)) (hi:s1[i]? = some [old]:=by assumption) (hil:s1.length=i + 1:=by assumption) (ht:old.tree=false:=by exact rfl) :
 AP Tryz.prog X ops Q (⟨some d,.slice T x (some lo) none none,ty,pos,aft,none⟩ :: ⟨d2,.call { callee:=.builtin .clear,args:=#[.tmp d],argTypes:=#[T'] },ty2,pos2,aft2,none⟩ :: rest) s:=
 ap_clr rfl rfl rfl rfl (by simpa using hdl) rfl hx hs hT hk hT' he hn hz hrk hlo hi hil ht K
end
abbrev iR (l:List Int):Bx:=.r tIn 1 (iS l)
abbrev kB (k:Int):Bx:=.c tIn [I k]
theorem tclos_ac (x k:Int):AC Tryz.prog 221 [I x,.bp 0 0 0] [kB k] (fun v bs'=>v=B (x == k)∧bs'=[kB k]):=by
 refine AC.N Tryz.func221 Tryz.ntmps221 ?_;intro X hρ hmks;refine NX ?_;refine W1 ?_;(exact RetQ.A [(0,0)] (by exact ⟨rfl,rfl⟩))
theorem idx_ac (l:List Int) (k:Int) (n:Nat) (hn:l[n]? = some k) (hb:∀ i x,l[i]? = some x→i≠n→x≠k) (hl:l.length≤1000) :
 AC Tryz.prog 238 [.hd 0 0,.fn 221 [.bp 1 0 0]] [iR l,kB k] (fun v bs'=>v=I n∧bs'=[iR l,kB k]):=by
 have hnl:n < l.length:=(List.getElem?_eq_some_iff.1 hn).1;refine AC.N Tryz.func238 Tryz.ntmps238 ?_;intro X hρ hmks;refine NX ?_
 repeat' (first|((first|refine wA1 ?_|(refine GA ?_;refine ⟨fun hg=>?_,fun hg=>?_⟩)|(refine GV ?_;intro c hnil;simp only [nz])|refine wA2 ?_)<;>(try refine NQ ?_))|refine wT3 ?_|with_reducible intro Q' hQ'|(refine GC ?_;refine ⟨fun hc=>?_,fun hc=>?_⟩)|simp only [la])
 refine cp_loopS [4,5,8,9,10,11,12,13,14,15,16,17,18] (fun a:Nat=>n - a) (fun a=>a≤n) (fun a=>[(8,I a)]) (fun _=>[]) 0 (Nat.zero_le _) (by exact Gh.W) ?_;intro a ha;simp only [setT,deT,setB,List.set_cons_succ,List.set_cons_zero];have q1:decide ((a:Int) < (l.length:Int))=true:=by simp;omega
 have q2:IntKind.i64.wrap ((a:Int) + 1)=((a + 1:Nat):Int):=wrap_i64 (by omega) (by omega)
 by_cases he:a=n
 ·subst he;have hr:(iS l)[a]? = some [I k]:=by rw [List.getElem?_map,hn];rfl
  have q3:(k == k)=true:=by simp
  have h1:=tclos_ac k k
  repeat' (first|((first|refine wA1 ?_|(refine GA ?_;refine ⟨fun hg=>?_,fun hg=>?_⟩)|(refine GV ?_;intro c hnil;simp only [nz])|refine wA2 ?_)<;>(try simp only [q1,q2,q3,nq,Nat.reduceBEq,Nat.reduceAdd,Nat.reduceSub]))|refine wT3 ?_|with_reducible intro Q' hQ'|(refine GC ?_;refine ⟨fun hc=>?_,fun hc=>?_⟩)|simp only [la])
  (exact RetQ.A [(0,0),(1,0)] (by exact ⟨rfl,rfl⟩))
 ·have hal:a < l.length:=by omega
  have hr:(iS l)[a]? = some [I l[a]]:=by rw [List.getElem?_map,List.getElem?_eq_getElem hal];rfl
  have q3:(l[a] == k)=false:=by simpa using hb a _ (List.getElem?_eq_getElem hal) he
  have h1:=tclos_ac l[a] k;generalize l[a]=x at *
  repeat' (first|((first|refine wA1 ?_|(refine GA ?_;refine ⟨fun hg=>?_,fun hg=>?_⟩)|(refine GV ?_;intro c hnil;simp only [nz])|refine wA2 ?_)<;>(try simp only [q1,q2,q3,nq,Nat.reduceBEq,Nat.reduceAdd,Nat.reduceSub]))|refine wT3 ?_|with_reducible intro Q' hQ'|(refine GC ?_;refine ⟨fun hc=>?_,fun hc=>?_⟩)|simp only [la])
  exact ⟨a + 1,by omega,by omega,by exact Gh.W⟩
/-- what stands there while the ones behind are moved -/
def shft (l:List Int) (n a:Nat):List Int:=(l.eraseIdx n).take (a - 1) ++ l.drop (a - 1)
theorem era_at {l:List Int} {n a:Nat} (h:n≤a):(l.eraseIdx n)[a]? = l[a + 1]?:=by
 rw [List.getElem?_eraseIdx,if_neg (by omega)]
theorem shft_0 (l:List Int) (n:Nat) (h:n≤l.length):shft l n (n + 1)=l:=by
 unfold shft
 have:(l.eraseIdx n).take n=l.take n:=by
  refine List.ext_getElem? fun i=>?_
  by_cases hi:i < n
  ·rw [List.getElem?_take_of_lt hi,List.getElem?_take_of_lt hi,List.getElem?_eraseIdx,if_pos hi]
  ·rw [List.getElem?_eq_none (by rw [List.length_take];omega),List.getElem?_eq_none (by rw [List.length_take];omega)]
 rw [Nat.add_sub_cancel,this,List.take_append_drop]
theorem shft_len (l:List Int) {n a:Nat} (h:n < l.length) (h2:a≤l.length):(shft l n a).length=l.length:=by
 unfold shft;rw [List.length_append,List.length_take,List.length_drop,List.length_eraseIdx_of_lt h];omega
theorem shft_at {l:List Int} {n a:Nat} (h1:n + 1≤a) (h2:a < l.length):(shft l n a)[a]? = l[a]?:=by
 unfold shft;have hl:((l.eraseIdx n).take (a - 1)).length=a - 1:=by rw [List.length_take,List.length_eraseIdx_of_lt (by omega)];omega
 rw [List.getElem?_append_right (by omega),hl,List.getElem?_drop]
 congr 1;omega
theorem shft_set {l:List Int} {n a:Nat} (h1:n + 1≤a) (h2:a < l.length):(shft l n a).set (a - 1) l[a]=shft l n (a + 1):=by
 obtain ⟨b,rfl⟩:∃ b,a=b + 1:=⟨a - 1,by omega⟩;unfold shft;simp only [Nat.add_sub_cancel];have hlt:b < (l.eraseIdx n).length:=by rw [List.length_eraseIdx_of_lt (by omega)];omega
 have hl:((l.eraseIdx n).take b).length=b:=by rw [List.length_take];omega
 have he:(l.eraseIdx n)[b]'hlt=l[b + 1]:=by
  have:=era_at (l:=l) (show n≤b by omega);rw [List.getElem?_eq_getElem hlt,List.getElem?_eq_getElem h2] at this;exact Option.some.inj this
 rw [List.set_append_right _ _ (by omega),hl,Nat.sub_self,List.drop_eq_getElem_cons (show b < l.length by omega),List.set_cons_zero,List.take_succ_eq_append_getElem hlt,he,List.append_assoc];rfl
theorem shft_end {l:List Int} {n:Nat} (h:n < l.length):(shft l n l.length).take (l.length - 1)=l.eraseIdx n:=by
 unfold shft;have hl:(l.eraseIdx n).length=l.length - 1:=List.length_eraseIdx_of_lt h;rw [List.take_of_length_le (by omega:(l.eraseIdx n).length≤l.length - 1),List.take_left' hl]
theorem aC11 {p G G':Prop} (c:p) (K:G') (h:p→G'→G:=by (intro c kz;(with_reducible apply AP.k_any);exact AP.CB [(1,1),(0,0)] 0 c kz)):G:=h c K
theorem wA18 {G G':Prop} (K:G') (h:G'→G:=by (intro kz;(with_reducible apply AP.k_any);first|exact AP.CK kz|(refine AP.Y ?_;dsimp only;exact kz))):G:=h K
theorem del_ac (l:List Int) (k:Int) (n:Nat) (hn:l[n]? = some k) (hb:∀ i x,l[i]? = some x→i≠n→x≠k) (hl:l.length≤1000) :
 AC Tryz.prog 220 [.sl (some tIn) 1 (iS l),.fn 221 [.bp 0 0 0]] [kB k] (fun v bs'=>v=.sl (some tIn) 1 (iS (l.eraseIdx n))∧bs'=[kB k]):=by
 have hnl:n < l.length:=(List.getElem?_eq_some_iff.1 hn).1;have h1:=idx_ac l k n hn hb hl;have q0:((n:Int) == -1)=false:=beq_eq_false_iff_ne.2 (by omega);have q00:IntKind.i64.wrap ((n:Int) + 1)=((n + 1:Nat):Int):=wrap_i64 (by omega) (by omega);refine AC.N Tryz.func220 Tryz.ntmps220 ?_;intro X hρ hmks;refine NX ?_
 repeat' (first|((first|refine wA14 ?_|(refine GA ?_;refine ⟨fun hg=>?_,fun hg=>?_⟩)|refine aC11 h1 ?_|refine wA15 ?_|(refine GV ?_;intro c hnil;simp only [nz]))<;>(try simp only [q0,q00,nq,Nat.reduceBEq,Nat.reduceAdd,Nat.reduceSub]))|refine wT3 ?_|with_reducible intro Q' hQ'|(refine GC ?_;refine ⟨fun hc=>?_,fun hc=>?_⟩)|simp only [la])
 refine cp_loopS [5,6,7,16,17,18,19,20,21,22,23,24,25,26,27,28,29,30,31,32,33,34,35] (fun a:Nat=>l.length - a) (fun a=>n + 1≤a∧a≤l.length) (fun a=>[(6,I a),(5,I ((a - 1:Nat):Int))]) (fun a=>[(1,⟨1,iR (shft l n a)⟩)]) (n + 1) ⟨by omega,by omega⟩ (by (rw [shft_0 l n (by omega)];exact Gh.W)) ?_;rintro a ⟨ha1,ha2⟩;simp only [setT,deT,setB,List.set_cons_succ,List.set_cons_zero];have hsl:=shft_len l hnl ha2;have hsl2:(iS (shft l n a)).length=l.length:=by rw [List.length_map,hsl]
 by_cases hal:a < l.length
 ·have q1:decide ((a:Int) < (l.length:Int))=true:=by simp;omega
  have q2:IntKind.i64.wrap ((a:Int) + 1)=((a + 1:Nat):Int):=wrap_i64 (by omega) (by omega);have q3:IntKind.i64.wrap (((a - 1:Nat):Int) + 1)=((a + 1 - 1:Nat):Int):=by rw [wrap_i64 (by omega) (by omega)];omega
  have q4:(l[a] == k)=false:=by simpa using hb a _ (List.getElem?_eq_getElem hal) (by omega)
  have hr:(iS (shft l n a))[a]? = some [I l[a]]:=by rw [List.getElem?_map,shft_at ha1 hal,List.getElem?_eq_getElem hal];rfl
  have hset:(iS (shft l n a)).set (a - 1) [I l[a]]=iS (shft l n (a + 1)):=by rw [←shft_set ha1 hal];exact List.map_set.symm
  obtain ⟨y,hy⟩:∃ y,(shft l n a)[a - 1]? = some y:=⟨_,List.getElem?_eq_getElem (by omega)⟩;have hr2:(iS (shft l n a))[a - 1]? = some [I y]:=by rw [List.getElem?_map,hy];rfl
  clear hy;have h2:=tclos_ac l[a] k;generalize l[a]=x at *
  repeat' (first|((first|refine wA1 ?_|(refine GA ?_;refine ⟨fun hg=>?_,fun hg=>?_⟩)|(refine GV ?_;intro c hnil;simp only [nz])|refine wA2 ?_)<;>(try simp only [q1,q2,q3,q4,hset,hsl,hsl2,nq,Nat.reduceBEq,Nat.reduceAdd,Nat.reduceSub]))|refine wT3 ?_|with_reducible intro Q' hQ'|(refine GC ?_;refine ⟨fun hc=>?_,fun hc=>?_⟩)|simp only [la])
  exact ⟨a + 1,by omega,⟨by omega,by omega⟩,by exact Gh.W⟩
 ·obtain rfl:a=l.length:=by omega
  have q1:decide ((l.length:Int) < (l.length:Int))=false:=by simp
  have hlast:∃ y,(shft l n l.length)[l.length - 1]? = some y:=⟨_,List.getElem?_eq_getElem (by omega)⟩;obtain ⟨y,hy⟩:=hlast;have hi:(iS (shft l n l.length))[l.length - 1]? = some [I y]:=by rw [List.getElem?_map,hy];rfl
  have hil:(iS (shft l n l.length)).length=l.length - 1 + 1:=by omega
  have hcut:((iS (shft l n l.length)).set (l.length - 1) [I 0]).take (l.length - 1)=iS (l.eraseIdx n):=by
   rw [List.take_set_of_le (Nat.le_refl _),←List.map_take,shft_end hnl]
  have hle:l.length - 1≤((iS (shft l n l.length)).set (l.length - 1) [I 0]).length:=by rw [List.length_set];omega
  repeat' (first|((first|refine wA18 ?_|(refine GA ?_;refine ⟨fun hg=>?_,fun hg=>?_⟩)|((with_reducible apply AP.k_any);refine ap_trunc rfl rfl rfl rfl rfl rfl rfl (.int rfl) hle ?_)|refine wA15 ?_|(refine GV ?_;intro c hnil;simp only [nz])|refine wA2 ?_)<;>(try simp only [q1,hsl,hsl2,hcut,nq,Nat.reduceBEq,Nat.reduceAdd,Nat.reduceSub]))|refine wT3 ?_|with_reducible intro Q' hQ'|(refine GC ?_;refine ⟨fun hc=>?_,fun hc=>?_⟩)|simp only [la])
  (exact RetQ.A [(0,0)] (by exact ⟨rfl,rfl⟩))
/-- its keys differ -/
abbrev Wt.nd (l:Wt):Prop:=(l.map (·.1)).Nodup
theorem map_era {α β:Type} (f:α→β):∀ (l:List α) (n:Nat),(l.eraseIdx n).map f=(l.map f).eraseIdx n
 | [],_=>rfl
 | _ :: _,0=>rfl
 | a :: l,n + 1=>by simp [List.eraseIdx_cons_succ,map_era f l n]
theorem nd_at {l:List Int} (h:l.Nodup) {i j:Nat} {x:Int} (hi:l[i]? = some x) (hj:l[j]? = some x):i=j:=by
 obtain ⟨i1,i2⟩:=List.getElem?_eq_some_iff.1 hi;obtain ⟨j1,j2⟩:=List.getElem?_eq_some_iff.1 hj;have hp:=List.pairwise_iff_getElem.1 h;rcases Nat.lt_trichotomy i j with hc|hc|hc
 ·exact absurd (i2.trans j2.symm) (hp i j i1 j1 hc)
 ·exact hc
 ·exact absurd (j2.trans i2.symm) (hp j i j1 i1 hc)
theorem atI_lt {k:Int} {l:Wt} {m:Nat} (h:atI k l=some m):m < l.length:=by
 obtain ⟨b,hb⟩:=atI_some h;exact (List.getElem?_eq_some_iff.1 hb).1
theorem aC12 {p G G':Prop} (c:p) (K:G') (h:p→G'→G:=by (intro c kz;(with_reducible apply AP.k_any);exact AP.CB [(3,1)] 0 c kz)):G:=h c K
theorem dC8 {p G G':Prop} (c:p) (K:G') (h:p→G'→G:=by (intro c kz;(with_reducible apply DW.k_any);refine DW.known rfl ?_;(with_reducible first|apply DW.sx 2);(iterate 2 (focus (simp only [ft,nm,Nat.reduceAdd,Nat.reduceBEq,List.getElem?_cons_zero,List.getElem?_cons_succ];exact rfl)));(focus (intro X V;simp only [ft,nm,Nat.reduceAdd,Nat.reduceBEq];(try (refine AP.Y ?_;dsimp only));((with_reducible apply AP.k_any);refine AP.CB [(3,1)] 0 c ?_);(try refine NX ?_);refine AP.nil ?_;(first|refine ⟨trivial,rfl,?_⟩|refine ⟨rfl,rfl,?_⟩);(repeat' (first|exact Mg.nil|apply Mg.keep rfl|apply Mg.take rfl));done));(focus (refine Exists.intro (fun _=>0) ?_;apply Exists.intro;(repeat' (first|exact Mg.nil|apply Mg.keep rfl|apply Mg.take rfl));done));(iterate 2 (focus (exact rfl)));exact kz)):G:=h c K
theorem ptake_ac (n:Int) (l:Wt) (k:Int) (m:Nat) (ha:atI k l=some m) (hd:l.nd) (hl:l.length≤1000):AC Tryz.prog 179 [.bp 0 0 0,I k] [plX n l] (fun v bs'=>v=.tu [bs none ((wGet l k).getD []),B true]∧bs'=[plX n (l.eraseIdx m)]):=by
 have h1:=pget_ac n l k;have hk:=kinI l;have hf:=fnd_atI k l;obtain ⟨b,hb⟩:=atI_some ha;have hml:=atI_lt ha;have e:wGet l k=some b:=by unfold wGet;rw [ha];dsimp only;rw [hb];rfl
 rw [e] at h1 ⊢;rw [ha] at hf;have hkm:(l.map (·.1))[m]? = some k:=by rw [List.getElem?_map,hb];rfl
 have h2:=del_ac (l.map (·.1)) k m hkm (fun i x hx hi hxk=>by
  subst hxk;exact hi (nd_at hd hx hkm)) (by simpa using hl)
 have e1:wKs (l.eraseIdx m)=iS ((l.map (·.1)).eraseIdx m):=congrArg (List.map eI) (map_era _ _ _);have e2:wKv (l.eraseIdx m)=(wKv l).eraseIdx m:=map_era ..;have e3:wVs (l.eraseIdx m)=(wVs l).eraseIdx m:=map_era ..;unfold plX plC;rw [e1,e2,e3];clear e1 e2 e3 hb hkm;refine AC.N Tryz.func179 Tryz.ntmps179 ?_;intro X hρ hmks;refine NX ?_;refine CP.SL ?_;refine CP.SL ?_;refine CP.SL ?_
 repeat' (first|((first|refine wA14 ?_|(refine GA ?_;refine ⟨fun hg=>?_,fun hg=>?_⟩)|refine aC4 h1 ?_|refine aC12 h2 ?_|refine wA15 ?_|(refine GV ?_;intro c hnil;simp only [nz])|refine wD4 ?_|refine dC3 h1 ?_|refine dC8 h2 ?_)<;>(try refine NQ ?_))|refine wT2 ?_|with_reducible intro Q' hQ'|(refine GC ?_;refine ⟨fun hc=>?_,fun hc=>?_⟩)|simp only [la])
 (exact RetQ.A [(0,0)] (by exact ⟨rfl,rfl⟩))
/-- a sender's numbers are small -/
def Ends.fit (x:Ends) (n:Int):Prop:=∀ s,0≤got s x.sent 0∧got s x.sent 0≤n
/-- the bytes of the next packet to one -/
def Ends.out (E:Ends) (to ep:Int) (body:List UInt8):List UInt8:=headS (E.pkt to ep body) ++ tagS E.root (E.pkt to ep body)
theorem may_pkt {E:Ends} {to ep:Int} {body:List UInt8} (h1:whoS E.who=true) (h2:whoS to=true) (h3:E.who≠to) (h4:1≤ep) (h5:0≤E.boot) (h6:0≤got (to,ep) E.sent 0):mayP (E.pkt to ep body)=true:=by
 show (whoS E.who && whoS to && !(E.who == to) && decide (1≤ep) && decide (0≤E.boot) && decide (1≤got (to,ep) E.sent 0 + 1))=true
 rw [h1,h2,decide_eq_true h4,decide_eq_true h5,decide_eq_true (by omega)];simp [h3]
theorem send_out {E:Ends} {to ep:Int} {body:List UInt8} (h:mayP (E.pkt to ep body)=true):E.send to ep body=((E.out to ep body,0),E.bump to ep):=if_pos h
theorem bclone_ac (a:List UInt8) (ha:a.length≤100000000) :
 AC Tryz.prog 41 [bs none a] [] (fun v bs'=>v=bs (some tU) a∧bs'=[]):=by
 refine AC.N Tryz.func41 Tryz.ntmps41 ?_;intro X hρ hmks;refine NX ?_
 repeat' (first|((first|refine wA4 ?_|(refine GV ?_;intro c hnil;simp only [nz]))<;>(try refine NX ?_))|refine wT4 ?_|with_reducible intro Q' hQ'|(refine GC ?_;refine ⟨fun hc=>?_,fun hc=>?_⟩)|simp only [la])
 ·obtain rfl:a=[]:=by simpa using hnil hc
  (exact RetQ.A [] (by exact ⟨rfl,rfl⟩))
 ·(refine RetQ.B [] ?_;(try dsimp only [resV,List.getD_cons_succ,List.getD_cons_zero]);(exact ⟨by simp,rfl⟩))
theorem mclone_ac (a:List Member) (ha:a.length≤100000000) :
 AC Tryz.prog 44 [ms none a] [] (fun v bs'=>v=ms (some tM) a∧bs'=[]):=by
 refine AC.N Tryz.func44 Tryz.ntmps44 ?_;intro X hρ hmks;refine NX ?_
 repeat' (first|((first|refine wA4 ?_|(refine GV ?_;intro c hnil;simp only [nz]))<;>(try refine NX ?_))|refine wT4 ?_|with_reducible intro Q' hQ'|(refine GC ?_;refine ⟨fun hc=>?_,fun hc=>?_⟩)|simp only [la])
 ·obtain rfl:a=[]:=by simpa using hnil hc
  (exact RetQ.A [] (by exact ⟨rfl,rfl⟩))
 ·(refine RetQ.B [] ?_;(try dsimp only [resV,List.getD_cons_succ,List.getD_cons_zero]);(exact ⟨by simp,rfl⟩))
def thereS (n:Int):Bool:=decide (0≤n) && decide (n < 5)
def atG:Nat→List Member→Int→Int
 | _,[],_=>-1
 | k,m :: l,n=>if m.node=n then k else atG (k + 1) l n
theorem there_ac (n:Int):AC Tryz.prog 217 [I n] [] (fun v bs=>v=B (thereS n)∧bs=[]):=by
 refine AC.N Tryz.func217 Tryz.ntmps217 ?_;intro X hρ hmks;refine NX ?_
 repeat' (first|((first|refine wA5 ?_|(refine GA ?_;refine ⟨fun hg=>?_,fun hg=>?_⟩))<;>(try refine NX ?_))|refine wT4 ?_|with_reducible intro Q' hQ'|(refine GC ?_;refine ⟨fun hc=>?_,fun hc=>?_⟩)|simp only [la])
 ·(refine RetQ.B [] ?_;(try dsimp only [resV,List.getD_cons_succ,List.getD_cons_zero]);(exact ⟨by simp at hg;simp [thereS];omega,rfl⟩))
 ·(refine RetQ.B [] ?_;(try dsimp only [resV,List.getD_cons_succ,List.getD_cons_zero]);(exact ⟨by simp at hg;simp [thereS];omega,rfl⟩))
theorem at1_ac (m:Member) (n:Int):AC Tryz.prog 237 [.ag (eM m),.bp 0 0 0] [.c 3 [I n]] (fun v bs=>v=B (decide (m.node=n))∧bs=[.c 3 [I n]]):=by
 refine AC.N Tryz.func237 Tryz.ntmps237 ?_;intro X hρ hmks;refine NX ?_
 repeat' (first|((first|refine wA4 ?_)<;>(try refine NX ?_))|refine wT4 ?_|with_reducible intro Q' hQ'|(refine GC ?_;refine ⟨fun hc=>?_,fun hc=>?_⟩)|simp only [la])
 (refine RetQ.B [(0,0)] ?_;(try dsimp only [resV,List.getD_cons_succ,List.getD_cons_zero]);(exact ⟨rfl,rfl⟩))
theorem index_ac (l:List Member) (n:Int) (hl:l.length≤100000000):AC Tryz.prog 236 [ms none l,.fn 237 [.bp 0 0 0]] [.c 3 [I n]] (fun v bs=>v=I (atG 0 l n)∧bs=[.c 3 [I n]]):=by
 refine AC.N Tryz.func236 Tryz.ntmps236 ?_;intro X hρ hmks;refine NX ?_
 repeat' (first|((first|refine wA4 ?_|((with_reducible apply AP.k_any);first|refine AP.E ?_))<;>(try refine NX ?_))|refine wT4 ?_|with_reducible intro Q' hQ'|(refine GC ?_;refine ⟨fun hc=>?_,fun hc=>?_⟩)|simp only [la])
 refine cp_loopS [5,9,10,11,12,13,14,15,16,17,18] (fun k=>l.length - k) (fun k=>k≤l.length∧atG 0 l n=atG k (l.drop k) n) (fun k=>[(8,I k)]) (fun _=>[]) 0 ⟨by omega,rfl⟩ (by exact Gh.W) ?_;rintro k ⟨hk,he⟩;simp only [setT,deT,setB,List.set_cons_succ,List.set_cons_zero]
 by_cases hlt:k < l.length
 ·have hw:IntKind.i64.wrap ((k:Int) + 1)=((k + 1:Nat):Int):=wrap_i64 (by omega) (by omega);rw [List.drop_eq_getElem_cons hlt,atG] at he
  repeat' (first|((first|refine wA4 ?_|((with_reducible apply AP.k_any);first|refine AP.E ?_)|refine aC2 (at1_ac l[k] n) ?_)<;>(try refine NX ?_))|refine wT4 ?_|with_reducible intro Q' hQ'|(refine GC ?_;refine ⟨fun hc=>?_,fun hc=>?_⟩)|simp only [la])
  ·(refine RetQ.B [(0,0)] ?_;(try dsimp only [resV,List.getD_cons_succ,List.getD_cons_zero]);(exact ⟨by rw [he,if_pos (by simpa using hc)],rfl⟩))
  ·simp only [hw];exact ⟨k + 1,by omega,⟨by omega,by rw [he,if_neg (by simpa using hc)]⟩,by exact Gh.W⟩
  ·exfalso;simp at *;omega
 ·rw [List.drop_of_length_le (by omega),atG] at he
  repeat' (first|((first|refine wA4 ?_|((with_reducible apply AP.k_any);first|refine AP.E ?_))<;>(try refine NX ?_))|refine wT4 ?_|with_reducible intro Q' hQ'|(refine GC ?_;refine ⟨fun hc=>?_,fun hc=>?_⟩)|simp only [la])
  all_goals first
   | (exfalso;simp at *;omega)
   | (refine RetQ.B [(0,0)] ?_;(try dsimp only [resV,List.getD_cons_succ,List.getD_cons_zero]);(exact ⟨by rw [he],rfl⟩))
theorem at_ac (l:List Member) (n:Int) (hl:l.length≤100000000):AC Tryz.prog 218 [ms none l,I n] [] (fun v bs=>v=I (atG 0 l n)∧bs=[]):=by
 refine AC.N Tryz.func218 Tryz.ntmps218 ?_;intro X hρ hmks;refine NX ?_
 repeat' (first|((first|refine wA4 ?_|refine aC7 (index_ac l n hl) ?_)<;>(try refine NX ?_))|refine wT4 ?_|with_reducible intro Q' hQ'|(refine GC ?_;refine ⟨fun hc=>?_,fun hc=>?_⟩)|simp only [la])
 (refine RetQ.B [] ?_;(try dsimp only [resV,List.getD_cons_succ,List.getD_cons_zero]);(exact ⟨rfl,rfl⟩))
def okM (c:Config) (i:Nat) (m:Member):Bool:=
 thereS m.node && decide (atG 0 (c.members.take i) m.node < 0) && decide (1≤m.since) && decide (m.since≤c.epoch) && (m.whole || (decide (i≠0) && decide (c.members.length≤i + 1)))
def mayL (c:Config):Nat→List Member→Bool
 | _,[]=>true
 | i,m :: l=>okM c i m && mayL c (i + 1) l
def mayC (c:Config):Bool:=decide (1≤c.epoch) && decide (c.epoch≤1099511627776) && decide (1≤c.members.length) && decide (c.members.length≤5) && mayL c 0 c.members
theorem may_ac (c:Config) (hc0:c.members.length≤100000000):AC Tryz.prog 177 [.ag (eC none c)] [] (fun v bs=>v=B (mayC c)∧bs=[]):=by
 refine AC.N Tryz.func177 Tryz.ntmps177 ?_;intro X hρ hmks;refine NX ?_
 repeat' (first|((first|((with_reducible apply AP.k_any);first|refine AP.S ?_|refine AP.E ?_|(refine AP.Y ?_;dsimp only)|refine AP.G (fun hg=>?_) (fun hg=>?_)|refine AP.T ?_|(refine AP.V (fun c hnil=>?_);simp only [nz]))|((with_reducible apply AQ.k_any);first|refine AQ.S ?_|refine AQ.E ?_|(refine AQ.Y ?_;dsimp only)|refine AQ.G (fun hg=>?_) (fun hg=>?_)))<;>(try refine NX ?_))|(refine AP.N0 ?_;try clear hQ' Q')|((with_reducible apply AQ.k_nil);first|(refine AQ.nil (hQ' _ ?_);clear hQ' Q')|refine AQ.nil ?_)|((with_reducible apply CP.k_drw);refine cp_drw (by kernel_rfl) (by kernel_rfl) fun Q' hQ'=>?_)|((with_reducible apply CP.k_drw1);refine cp_draw (by kernel_rfl) (by kernel_rfl) ?_)|((with_reducible apply CP.k_reg);refine cp_regG fun Q' hQ'=>?_)|refine CP.W ?_|refine cp_cond rfl (fun hc=>?_) (fun hc=>?_)|(simp only [List.append_eq,List.cons_append,List.nil_append]))
 ·(refine RetQ.B [] ?_;(try dsimp only [resV,List.getD_cons_succ,List.getD_cons_zero]);((have h:mayC c=false:=by (simp [mayC];simp at *;omega));exact ⟨by rw [h],rfl⟩))
 ·(refine RetQ.B [] ?_;(try dsimp only [resV,List.getD_cons_succ,List.getD_cons_zero]);((have h:mayC c=false:=by (simp [mayC];simp at *;omega));exact ⟨by rw [h],rfl⟩))
 ·(refine RetQ.B [] ?_;(try dsimp only [resV,List.getD_cons_succ,List.getD_cons_zero]);((have h:mayC c=false:=by (simp [mayC];simp at *;omega));exact ⟨by rw [h],rfl⟩))
 ·(refine RetQ.B [] ?_;(try dsimp only [resV,List.getD_cons_succ,List.getD_cons_zero]);((have h:mayC c=false:=by (simp [mayC];simp at *;omega));exact ⟨by rw [h],rfl⟩))
 rename_i hg1 hg2
 simp at hg hg1 hg2 hc
 have hm:mayC c=mayL c 0 c.members:=by
  have e1:1≤c.epoch:=by omega
  have e2:c.epoch≤1099511627776:=by omega
  have e3:1≤c.members.length:=by omega
  have e4:c.members.length≤5:=by omega
  simp [mayC,e1,e2,e3,e4]
 clear hg1 hg2;refine CP.gh gh_slot ?_;refine NX ?_;refine cp_loopS [2,4,5,28,29,30,31,32,33,34,35,36,37,38,39,40,41,42,43,44,45,46,47,48,49,50,51,52,53,54,55,56,57,58,59,60,61,62,63,64,65,66,67,68,69,70,71,72,73,74,75] (fun a:Nat×Nat=>c.members.length - a.1) (fun a=>a.1≤c.members.length∧mayC c=mayL c a.1 (c.members.drop a.1)) (fun a=>[(28,I a.1)]) (fun a=>[(1,⟨a.2,.x⟩)]) (0,0) ⟨by omega,hm⟩ (by exact Gh.W) ?_;rintro ⟨k,u⟩ ⟨hk,he⟩;simp only [setT,deT,setB,List.set_cons_succ,List.set_cons_zero];dsimp only at hk he
 by_cases hlt:k < c.members.length
 ·have hw:IntKind.i64.wrap ((k:Int) + 1)=((k + 1:Nat):Int):=wrap_i64 (by omega) (by omega);have hw2:IntKind.i64.wrap ((c.members.length:Int) - 1)=(c.members.length:Int) - 1:=wrap_i64 (by omega) (by omega);rw [List.drop_eq_getElem_cons hlt,mayL] at he
  repeat' (first|((first|((with_reducible apply AP.k_any);first|refine AP.S ?_|refine AP.E ?_|(refine AP.Y ?_;dsimp only)|refine AP.G (fun hg=>?_) (fun hg=>?_)|refine AP.T ?_|(refine AP.V (fun c hnil=>?_);simp only [nz]))|((with_reducible apply AQ.k_any);first|refine AQ.S ?_|refine AQ.E ?_|(refine AQ.Y ?_;dsimp only)|refine AQ.G (fun hg=>?_) (fun hg=>?_))|((with_reducible apply AQ.k_any);refine AQ.CQ (there_ac _) ?_)|((with_reducible apply AQ.k_any);refine AQ.CQ (at_ac (c.members.take k) _ (by simp;omega)) ?_))<;>(try refine NX ?_))|(refine AP.N0 ?_;try clear hQ' Q')|((with_reducible apply AQ.k_nil);first|(refine AQ.nil (hQ' _ ?_);clear hQ' Q')|refine AQ.nil ?_)|((with_reducible apply CP.k_drw);refine cp_drw (by kernel_rfl) (by kernel_rfl) fun Q' hQ'=>?_)|((with_reducible apply CP.k_drw1);refine cp_draw (by kernel_rfl) (by kernel_rfl) ?_)|((with_reducible apply CP.k_reg);refine cp_regG fun Q' hQ'=>?_)|refine CP.W ?_|refine cp_cond rfl (fun hc=>?_) (fun hc=>?_)|(simp only [List.append_eq,List.cons_append,List.nil_append]))

  all_goals simp only [List.length_map,hw2,Nat.sub_zero,Int.toNat_natCast,List.drop_zero] at *
  all_goals first
   | (exfalso;simp at *;omega)
   | (refine RetQ.B [] ?_;(try dsimp only [resV,List.getD_cons_succ,List.getD_cons_zero]);((have h:okM c k c.members[k]=false:=by (cases h:okM c k c.members[k] with|false=>rfl|true=>(exfalso;clear he hm hw;simp [okM] at h;cases hwh:c.members[k].whole<;>simp_all<;>omega)));(have h2:mayC c=false:=by rw [he,h,Bool.false_and]);exact ⟨by rw [h2],rfl⟩))
   | ((try simp only [hw]);exact ⟨(k + 1,u + 1),by (dsimp only;omega),⟨by (dsimp only;omega),by rw [he];(have h:okM c k c.members[k]=true:=by (clear he hm hw;cases hwh:c.members[k].whole<;>simp [okM,hwh]<;>simp_all<;>omega));rw [h,Bool.true_and]⟩,by exact Gh.W⟩)
 ·rw [List.drop_of_length_le (by omega),mayL] at he
  repeat' (first|((first|((with_reducible apply AP.k_any);first|refine AP.S ?_|refine AP.E ?_|(refine AP.Y ?_;dsimp only)|refine AP.G (fun hg=>?_) (fun hg=>?_)|refine AP.T ?_|(refine AP.V (fun c hnil=>?_);simp only [nz]))|((with_reducible apply AQ.k_any);first|refine AQ.S ?_|refine AQ.E ?_|(refine AQ.Y ?_;dsimp only)|refine AQ.G (fun hg=>?_) (fun hg=>?_)))<;>(try refine NX ?_))|(refine AP.N0 ?_;try clear hQ' Q')|((with_reducible apply AQ.k_nil);first|(refine AQ.nil (hQ' _ ?_);clear hQ' Q')|refine AQ.nil ?_)|((with_reducible apply CP.k_drw);refine cp_drw (by kernel_rfl) (by kernel_rfl) fun Q' hQ'=>?_)|((with_reducible apply CP.k_drw1);refine cp_draw (by kernel_rfl) (by kernel_rfl) ?_)|((with_reducible apply CP.k_reg);refine cp_regG fun Q' hQ'=>?_)|refine CP.W ?_|refine cp_cond rfl (fun hc=>?_) (fun hc=>?_)|(simp only [List.append_eq,List.cons_append,List.nil_append]))
  all_goals first
   | (exfalso;simp at *;omega)
   | (refine RetQ.B [] ?_;(try dsimp only [resV,List.getD_cons_succ,List.getD_cons_zero]);(exact ⟨by rw [he],rfl⟩))
abbrev tCf:TypeId:=37
def fm (k:Nat):List Member:=(List.range k).map fun (i:Nat)=>(⟨(i:Int),1,true⟩:Member)
theorem fm_succ (k:Nat):(fm (k + 1)).map eM=(fm k).map eM ++ [[I (k:Int),I 1,B true]]:=by
 unfold fm;rw [List.range_succ,List.map_append,List.map_append];rfl
theorem fm_len (k:Nat):(fm k).length=k:=by simp [fm]
def cFirst (n:Int):Config×Int:=if n < 1∨5 < n then (cfg0,2) else (⟨1,fm n.toNat⟩,0)
theorem mayC_of {c:Config} (h:mayC c=true):1≤c.epoch∧c.epoch≤1099511627776∧1≤c.members.length∧c.members.length≤5:=by
 simp only [mayC,Bool.and_eq_true,decide_eq_true_eq] at h;exact ⟨h.1.1.1.1,h.1.1.1.2,h.1.1.2,h.1.2⟩
theorem cfirst_ac (n:Int):AC Tryz.prog 21 [I n] [] (fun v bs'=>v=.tu [.ag (eC none (cFirst n).1),I (cFirst n).2]∧bs'=[]):=by
 by_cases h1:n < 1
 ·have e:cFirst n=(cfg0,2):=if_pos (.inl h1);have sm:=decide_eq_true h1;rw [e];refine AC.N Tryz.func21 Tryz.ntmps21 ?_;intro X hρ hmks;refine NX ?_;refine W1 ?_;(exact RetQ.A [] (by exact ⟨rfl,rfl⟩))
 ·by_cases h2:5 < n
  ·have e:cFirst n=(cfg0,2):=if_pos (.inr h2);have sm:=And.intro (decide_eq_false h1) (decide_eq_true h2);rw [e];refine AC.N Tryz.func21 Tryz.ntmps21 ?_;intro X hρ hmks;refine NX ?_;refine W1 ?_;(exact RetQ.A [] (by exact ⟨rfl,rfl⟩))
  ·have e:cFirst n=(⟨1,fm n.toNat⟩,0):=if_neg (by omega);rw [e];obtain ⟨k,rfl⟩:∃ k:Nat,n=k:=⟨n.toNat,by omega⟩;simp only [Int.toNat_natCast];have sm:=And.intro (decide_eq_false h1) (decide_eq_false h2);refine AC.N Tryz.func21 Tryz.ntmps21 ?_;intro X hρ hmks;refine NX ?_;refine W1 ?_;refine CP.gh (gh_nilc (j:=1) (u:=1) (off:=1) (e:=tM) (k:=3) rfl rfl) ?_;refine NX ?_;refine CP.SL ?_;refine cp_loopS [5,15,16,17,18,19,20,21,22,23,24,25] (fun a:Nat=>k - a) (fun a=>a≤k) (fun a=>[(15,I a)]) (fun a=>[(1,⟨1,.c tCf [I 1,.hd 2 (a + 1)]⟩),(2,⟨a + 1,.r tM 3 ((fm a).map eM)⟩),(3,⟨a,.x⟩)]) 0 (Nat.zero_le _) (by exact Gh.W) ?_;intro a ha;simp only [setT,deT,setB,List.set_cons_succ,List.set_cons_zero]
   by_cases hlt:a < k
   ·have q1:decide ((a:Int) < (k:Int))=true:=by simp;omega
    have q2:IntKind.i64.wrap ((a:Int) + 1)=((a + 1:Nat):Int):=wrap_i64 (by omega) (by omega);have hlen:((fm a).map eM).length + 1≤1000000000:=by rw [List.length_map,fm_len];omega
    have sm:=And.intro q1 q2;refine W1 ?_;refine ⟨a + 1,by omega,by omega,?_⟩;rw [fm_succ];exact Gh.W
   ·obtain rfl:a=k:=by omega
    have sm:=decide_eq_false (show ¬ ((a:Int) < (a:Int)) by omega);refine W1 ?_;(exact RetQ.Fz [] (by exact ⟨rfl,rfl⟩))
def mem0:Member:=⟨0,0,false⟩
def cHead (c:Config):Int:=if mayC c=true then (c.members.headD mem0).node else -1
theorem cnode_ac (c:Config) (hl:c.members.length≤100000000):AC Tryz.prog 136 [.ag (eC none c),I 0] [] (fun v bs'=>v=I (cHead c)∧bs'=[]):=by
 have h1:=may_ac c hl
 cases hm:mayC c with
 | false=>
  have e:cHead c = -1:=if_neg (by rw [hm];simp);rw [e];rw [hm] at h1;refine AC.N Tryz.func136 Tryz.ntmps136 ?_;intro X hρ hmks;refine NX ?_;refine W1 ?_;(exact RetQ.A [] (by exact ⟨rfl,rfl⟩))
 | true=>
  have e:cHead c=(c.members.headD mem0).node:=if_pos hm;rw [e];rw [hm] at h1;obtain ⟨ep,M⟩:=c;obtain ⟨_,_,m3,_⟩:=mayC_of hm
  cases M with
  | nil=>simp at m3
  | cons m M=>
   have d0:decide (((m :: M).length:Int)≤0)=false:=by rw [decide_eq_false_iff_not];simp only [List.length_cons];omega
   have hr:((m :: M).map eM)[0]? = some (eM m):=rfl;have sm:=And.intro d0 (show decide ((0:Int) < 0)=false from rfl);clear hm e;dsimp only at h1 hl m3
   show AC _ _ _ _ (fun v bs'=>v=I m.node∧bs'=[])
   generalize m :: M=MM at *;refine AC.N Tryz.func136 Tryz.ntmps136 ?_;intro X hρ hmks;refine NX ?_;refine W1 ?_;(exact RetQ.A [] (by exact ⟨rfl,rfl⟩))
theorem chead_ac (c:Config) (hl:c.members.length≤100000000):AC Tryz.prog 74 [.ag (eC none c)] [] (fun v bs'=>v=I (cHead c)∧bs'=[]):=by
 have h1:=cnode_ac c hl;refine AC.N Tryz.func74 Tryz.ntmps74 ?_;intro X hρ hmks;refine NX ?_;refine W1 ?_;(exact RetQ.A [] (by exact ⟨rfl,rfl⟩))
abbrev tGw:TypeId:=83
structure Gw where
 cfg:Config
 ends:Ends
 wt:Wt
 ask:Nat→Int
abbrev gwC (x:Gw):List AV:=[.ob tEn (enE x.ends),I x.cfg.epoch,ms none x.cfg.members,.ob tPl (plC 4 x.wt),I (x.ask 0),I (x.ask 1),I (x.ask 2),I (x.ask 3)]
abbrev gB (x:Gw):Bx:=.c tGw (gwC x)
/-- which id of a client waits -/
def Gw.waits (x:Gw) (c:Int):Int×Bool:=if (wGet x.wt c).isSome then (x.ask c.toNat,true) else (0,false)
theorem gnone_ac (x:Gw):AC Tryz.prog 39 [.bp 0 0 0] [gB x] (fun v bs'=>v=B false∧bs'=[gB x]):=by
 refine AC.N Tryz.func39 Tryz.ntmps39 ?_;intro X hρ hmks;refine NX ?_;refine W1 ?_;(exact RetQ.A [(0,0)] (by exact ⟨rfl,rfl⟩))
theorem wT7 {G G':Prop} (K:G') (h:G'→G:=by (intro kz;first|exact CP.T2 kz|((with_reducible apply CP.k_drw);exact cp_drwX kz)|((with_reducible apply CP.k_reg);exact cp_regG kz))):G:=h K
theorem gnew_ok (root:List UInt8) (n:Int) (hr:root.length≤100000000) (h:¬ (n < 1∨5 < n)):AC Tryz.prog 8 [bs none root,I n] [] (fun v bs'=>v=.tu [.bp 0 0 0,I 0]∧bs'=[gB ⟨⟨1,fm n.toNat⟩,⟨root,8,1,[],[]⟩,[],fun _=>0⟩]):=by
 have h1:=cfirst_ac n;rw [show cFirst n=(⟨1,fm n.toNat⟩,0) from if_neg h] at h1;have h2:=lnew_ac root 8 1 hr;have h3:=pnew_ac 4 (by omega);dsimp only at h1;generalize fm n.toNat=M at *;refine AC.N Tryz.func8 Tryz.ntmps8 ?_;intro X hρ hmks;refine NX ?_;iterate 8 refine CP.SL ?_
 repeat' (first|((first|refine wA1 ?_|(refine GA ?_;refine ⟨fun hg=>?_,fun hg=>?_⟩)|(refine GV ?_;intro c hnil;simp only [nz])|refine wA2 ?_)<;>(try refine NQ ?_))|refine wT6 ?_|with_reducible intro Q' hQ'|(refine GC ?_;refine ⟨fun hc=>?_,fun hc=>?_⟩)|simp only [la])
 first|refine cp_drwX fun Q' hQ'=>?_|refine cp_drawX ?_
 (((with_reducible apply DW.k_any);refine DW.ST ?_)<;>(try simp only [nq,Nat.reduceBEq,Nat.reduceAdd,Nat.reduceSub]))
 refine DW.A 3 ?_;simp only [nq,Nat.reduceBEq,Nat.reduceAdd,Nat.reduceSub]
 (((with_reducible apply DW.k_any);refine DW.ST ?_)<;>(try simp only [nq,Nat.reduceBEq,Nat.reduceAdd,Nat.reduceSub]))
 refine DW.A 3 ?_;simp only [nq,Nat.reduceBEq,Nat.reduceAdd,Nat.reduceSub]
 repeat' (first|((first|refine wA1 ?_|(refine GA ?_;refine ⟨fun hg=>?_,fun hg=>?_⟩)|(refine GV ?_;intro c hnil;simp only [nz])|refine wA2 ?_|refine wD3 ?_)<;>(try refine NQ ?_))|refine wT7 ?_|with_reducible intro Q' hQ'|(refine GC ?_;refine ⟨fun hc=>?_,fun hc=>?_⟩)|simp only [la])
 (exact RetQ.A [(7,1)] (by exact ⟨rfl,rfl⟩))
theorem gwaits_no (x:Gw) (c:Int) (h:wGet x.wt c=none):AC Tryz.prog 16 [.bp 0 0 0,I c] [gB x] (fun v bs'=>v=.tu [I 0,B false]∧bs'=[gB x]):=by
 have h1:=gnone_ac x;have h2:=pget_ac 4 x.wt c;rw [h] at h2;refine AC.N Tryz.func16 Tryz.ntmps16 ?_;intro X hρ hmks;refine NX ?_;refine CP.SL ?_;refine CP.SL ?_;refine W1 ?_;(exact RetQ.A [(0,0)] (by exact ⟨rfl,rfl⟩))
theorem gwaits_yes (x:Gw) (k:Nat) (hk:k < 4) (b:List UInt8) (h:wGet x.wt k=some b):AC Tryz.prog 16 [.bp 0 0 0,I k] [gB x] (fun v bs'=>v=.tu [I (x.ask k),B true]∧bs'=[gB x]):=by
 have h1:=gnone_ac x;have h2:=pget_ac 4 x.wt k;rw [h] at h2;have hk4:k=0∨k=1∨k=2∨k=3:=by omega
 rcases hk4 with rfl|rfl|rfl|rfl
 all_goals
  refine AC.N Tryz.func16 Tryz.ntmps16 ?_;intro X hρ hmks;refine NX ?_;refine CP.SL ?_;refine CP.SL ?_;refine W1 ?_;(exact RetQ.A [(0,0)] (by exact ⟨rfl,rfl⟩))
theorem gconfig_ac (x:Gw) (hl:x.cfg.members.length≤100000000):AC Tryz.prog 17 [.bp 0 0 0] [gB x] (fun v bs'=>v=.ag (eC none x.cfg)∧bs'=[gB x]):=by
 have h1:=gnone_ac x;have h2:=(mclone_ac x.cfg.members hl).ro (r2:=ms none x.cfg.members) (by simp only [AV.ro,ro_M]);refine AC.N Tryz.func17 Tryz.ntmps17 ?_;intro X hρ hmks;refine NX ?_;refine CP.SL ?_;refine CP.SL ?_;refine W1 ?_;(exact RetQ.A [(0,0)] (by exact ⟨rfl,rfl⟩))
/-- what a client asks for, as a message -/
def Gw.msg (x:Gw) (who:Int):Msg:={ msg0 with kind:=1,client:=who,id:=x.ask who.toNat,body:=(wGet x.wt who).getD [] }
def Gw.go (x:Gw) (p:List (List UInt8)×Ends) (who:Int):List (List UInt8)×Ends:=(p.1 ++ [p.2.out (cHead x.cfg) x.cfg.epoch (formM (x.msg who))],p.2.bump (cHead x.cfg) x.cfg.epoch)
def Gw.sends (x:Gw) (who:List Int):List (List UInt8)×Gw:=((who.foldl x.go ([],x.ends)).1,{ x with ends:=(who.foldl x.go ([],x.ends)).2 })
/-- a client that may be sent for -/
structure Gw.fine (x:Gw) (w:Int):Prop where
 c:w=0∨w=1∨w=2∨w=3
 b:((wGet x.wt w).getD []).length≤1024
 i:1≤x.ask w.toNat
theorem Gw.fine.may {x:Gw} {w:Int} (h:x.fine w):mayM (x.msg w)=true:=by
 have hb:=h.b;have hi:=h.i
 have h1:clientS w (x.ask w.toNat)=true:=by
  have:=h.c;simp only [clientS,Bool.and_eq_true,decide_eq_true_eq];omega
 have e:mayM (x.msg w)=(mayAsk (x.msg w) && noneM (bareAsk (x.msg w))):=rfl;rw [e,Bool.and_eq_true];refine ⟨?_,rfl⟩
 show (clientS w (x.ask w.toNat) && decide (((wGet x.wt w).getD []).length≤20000))=true
 rw [h1,decide_eq_true (by omega)];rfl
theorem Gw.fine.len {x:Gw} {w:Int} (h:x.fine w):(formM (x.msg w)).length≤60000:=by
 have hb:=h.b;have e:formM (x.msg w)=1 :: (numS [w,x.ask w.toNat] ++ (putS ((wGet x.wt w).getD []).length 4 ++ (wGet x.wt w).getD [])):=rfl;rw [e];simp only [List.length_cons,List.length_append,numS_length,putS_length,List.length_nil];omega
theorem go_keep (x:Gw):∀ (who:List Int) (p:List (List UInt8)×Ends) (n:Int),0≤n→p.2.fit n→(who.foldl x.go p).2.fit (n + who.length)∧(who.foldl x.go p).2.root=p.2.root∧(who.foldl x.go p).2.who=p.2.who∧(who.foldl x.go p).2.boot=p.2.boot∧(who.foldl x.go p).2.wins=p.2.wins∧(who.foldl x.go p).1.length=p.1.length + who.length
 | [],p,n,_,h=>⟨by simpa using h,rfl,rfl,rfl,rfl,rfl⟩
 | w :: who,p,n,hn,h=>by
  have hf:(x.go p w).2.fit (n + 1):=fun s=>by
   have h1:=h s;have h2:=h (cHead x.cfg,x.cfg.epoch)
   show 0≤got s (puts _ p.2.sent _) 0∧got s (puts _ p.2.sent _) 0≤n + 1
   rw [got_puts];split<;>omega
  obtain ⟨a1,a2,a3,a4,a5,a6⟩:=go_keep x who (x.go p w) (n + 1) (by omega) hf;rw [List.foldl_cons];refine ⟨?_,a2,a3,a4,a5,?_⟩
  ·rw [show n + ((w :: who).length:Int)=n + 1 + (who.length:Int) by simp only [List.length_cons];omega];exact a1
  ·rw [a6];show (p.1 ++ [_]).length + _=_;simp only [List.length_append,List.length_cons,List.length_nil];omega
structure Gw.rdy (x:Gw):Prop where
 c:mayC x.cfg=true
 r:x.ends.root.length≤10000
 w:x.ends.who=8
 b:x.ends.boot=1
theorem mayC_head {c:Config} (h:mayC c=true):whoS (cHead c)=true∧cHead c≠8:=by
 have e:cHead c=(c.members.headD mem0).node:=if_pos h;rw [e];obtain ⟨_,_,h1,_⟩:=mayC_of h;obtain ⟨ep,M⟩:=c
 cases M with
 | nil=>simp at h1
 | cons m M=>
  simp only [mayC,mayL,okM,Bool.and_eq_true] at h;have ht:=h.2.1.1.1.1.1;simp only [thereS,Bool.and_eq_true,decide_eq_true_eq] at ht
  show whoS m.node=true∧m.node≠8
  refine ⟨?_,by omega⟩;simp only [whoS,Bool.or_eq_true,Bool.and_eq_true,decide_eq_true_eq];exact .inl (.inl (by omega))
theorem gsend_ac (x:Gw) (who:List Int) (hg:x.rdy) (hf:x.ends.fit 1000000) (hw:who.length≤1000) (hm:∀ w∈who,x.fine w) :
 AC Tryz.prog 42 [.bp 0 0 0,.sl none 1 (iS who)] [gB x] (fun v bs'=>v=bss none (x.sends who).1∧bs'=[gB (x.sends who).2]):=by
 unfold Gw.sends;refine AC.N Tryz.func42 Tryz.ntmps42 ?_;intro X hρ hmks;refine NX ?_;refine CP.SL ?_;refine CP.SL ?_;refine CP.SL ?_
 repeat' (first|((first|refine wA1 ?_|(refine GA ?_;refine ⟨fun hg=>?_,fun hg=>?_⟩)|(refine GV ?_;intro c hnil;simp only [nz])|refine wA2 ?_)<;>(try refine NQ ?_))|refine wT6 ?_|with_reducible intro Q' hQ'|(refine GC ?_;refine ⟨fun hc=>?_,fun hc=>?_⟩)|simp only [la])
 refine CP.gh (gh_nil (t:=5) (e:=tB) (k:=1) rfl) ?_;refine NX ?_
 refine cp_loopS [5,7,8,9,10,11,12,13,16,17,18,19,20,21,22,23,24,25,26,27,28,29,30,31,32,33,34,35,36,37,38,39,40,41,42,43,44,45,46,47,48,49,50,51,52,53,54,55,56,57,58,59,60,61,62,63,64,65,66,67,68,69] (fun a:Nat×List (List UInt8)×Ends=>who.length - a.1) (fun a=>a.1≤who.length∧(who.take a.1).foldl x.go ([],x.ends)=(a.2.1,a.2.2)) (fun a=>[(16,I a.1),(5,.hd 7 (a.1 + 1))])
  (fun a=>[(1,⟨a.1 + 1,.m (keyN a.2.2.sent) (rowN a.2.2.sent) none none⟩),(2,⟨a.1 + 1,.m (keyW a.2.2.wins) (rowW a.2.2.wins) none none⟩),(3,⟨1,.c tEn [B true,bs none a.2.2.root,I a.2.2.who,I a.2.2.boot,.hd 1 (a.1 + 1),.hd 2 (a.1 + 1)]⟩),
    (4,⟨a.1 + 1,.r tIn 1 (wKs x.wt)⟩),(5,⟨a.1 + 1,.m (wKv x.wt) (wVs x.wt) none none⟩),(6,⟨1,.c tPl [I 4,.hd 4 (a.1 + 1),.hd 5 (a.1 + 1)]⟩),(7,⟨a.1 + 1,.r tB 1 (a.2.1.map eS)⟩),(8,⟨a.1,.x⟩)]) (0,[],x.ends) ⟨Nat.zero_le _,rfl⟩ (by exact Gh.W) ?_
 rintro ⟨a,l,E⟩ ⟨ha,he⟩;simp only [setT,deT,setB,List.set_cons_succ,List.set_cons_zero];dsimp only at ha he;obtain ⟨f1,f2,f3,f4,f5,f6⟩:=go_keep x (who.take a) ([],x.ends) 1000000 (by omega) hf;rw [he] at f1 f2 f3 f4 f5 f6;dsimp only at f1 f2 f3 f4 f5 f6;rw [List.length_take] at f1 f6
 by_cases hlt:a < who.length
 ·have q1:decide ((a:Int) < (who.length:Int))=true:=by simp;omega
  have q2:IntKind.i64.wrap ((a:Int) + 1)=((a + 1:Nat):Int):=wrap_i64 (by omega) (by omega);have hrw:(iS who)[a]? = some [I who[a]]:=by rw [List.getElem?_map,List.getElem?_eq_getElem hlt];rfl
  have hfine:=hm _ (List.getElem_mem hlt)
  have he2:(who.take (a + 1)).foldl x.go ([],x.ends)=(l ++ [E.out (cHead x.cfg) x.cfg.epoch (formM (x.msg who[a]))],E.bump (cHead x.cfg) x.cfg.epoch):=by
   rw [List.take_succ_eq_append_getElem hlt,List.foldl_append,he];rfl
  generalize who[a]=w at *;have h1:=pget_ac 4 x.wt w;have hmay:=hfine.may;have hlen:=hfine.len;have h2:=(print_ac (x.msg w) ⟨by have:=hfine.b;show ((wGet x.wt w).getD []).length≤_;omega,Nat.zero_le _,Nat.zero_le _,fun e he=>by cases he⟩).ro (r2:=.tu [bs none (printS (x.msg w)).1,I (printS (x.msg w)).2]) (by simp only [AV.ro,roC,ro_B]);rw [show printS (x.msg w)=(formM (x.msg w),0) from if_pos hmay] at h2;obtain ⟨c1,c2⟩:=mayC_head hg.c;obtain ⟨c3,_,_,c4⟩:=mayC_of hg.c;have h3:=chead_ac x.cfg (by omega);have hpk:mayP (E.pkt (cHead x.cfg) x.cfg.epoch (formM (x.msg w)))=true:=may_pkt (by rw [f3,hg.w];rfl) c1 (by rw [f3,hg.w];exact fun h=>c2 h.symm) c3 (by rw [f4,hg.b];omega) (f1 _).1;have h4:=send_ac E (cHead x.cfg) x.cfg.epoch (formM (x.msg w)) (by rw [f2];exact hg.r) hlen ⟨(f1 _).1,by have:=(f1 (cHead x.cfg,x.cfg.epoch)).2;omega⟩;rw [send_out hpk] at h4;dsimp only at h4;generalize E.out (cHead x.cfg) x.cfg.epoch (formM (x.msg w))=b at *;generalize E.bump (cHead x.cfg) x.cfg.epoch=E2 at *;generalize cHead x.cfg=hd at *;generalize formM (x.msg w)=body at *;have hl1:(l.map eS).length + 1≤1000000000:=by rw [List.length_map];simp at f6;omega
  have hmp:(l ++ [b]).map eS=l.map eS ++ [[bs none b]]:=by rw [List.map_append];rfl
  have hc4:=hfine.c;clear he f1 f2 f3 f4 f5 f6 hmay hlen hpk hfine hm;rcases hc4 with rfl|rfl|rfl|rfl
  all_goals
   repeat' (first|((first|refine wA1 ?_|(refine GA ?_;refine ⟨fun hg=>?_,fun hg=>?_⟩)|(refine GV ?_;intro c hnil;simp only [nz])|refine aC4 h1 ?_|refine aC1 h2 ?_|refine aC4 h4 ?_|refine wA2 ?_|refine wD4 ?_|refine dC3 h1 ?_|refine dC1 h2 ?_|refine dC3 h4 ?_)<;>(try simp only [q1,q2,nq,Nat.reduceBEq,Nat.reduceAdd,Nat.reduceSub]))|refine wT7 ?_|with_reducible intro Q' hQ'|(refine GC ?_;refine ⟨fun hc=>?_,fun hc=>?_⟩)|simp only [la])
   refine ⟨(a + 1,l ++ [b],E2),by (dsimp only;omega),⟨by (dsimp only;omega),he2⟩,?_⟩;dsimp only;rw [hmp];exact Gh.W
 ·obtain rfl:a=who.length:=by omega
  have q1:decide ((who.length:Int) < (who.length:Int))=false:=by simp
  rw [List.take_length] at he;rw [he];refine CP.gh (gh_fzS (b:=7) rfl) ?_;simp only [ro_S,nq,Nat.reduceBEq,Nat.reduceAdd,Nat.reduceSub]
  repeat' (first|((first|refine wA1 ?_|(refine GA ?_;refine ⟨fun hg=>?_,fun hg=>?_⟩)|(refine GV ?_;intro c hnil;simp only [nz])|refine wA2 ?_|refine wD3 ?_)<;>(try simp only [q1,nq,Nat.reduceBEq,Nat.reduceAdd,Nat.reduceSub]))|refine wT7 ?_|with_reducible intro Q' hQ'|(refine GC ?_;refine ⟨fun hc=>?_,fun hc=>?_⟩)|simp only [la])
  (exact RetQ.A [(0,0)] (by exact ⟨rfl,rfl⟩))
def Gw.keys (x:Gw):List Int:=x.wt.map (·.1)
def Gw.tick (x:Gw):List (List UInt8)×Gw:=x.sends x.keys
/-- what holds of a gateway at all times -/
structure Gw.ok (x:Gw) (n:Nat):Prop where
 g:x.rdy
 f:x.ends.fit n
 nd:x.wt.nd
 l:x.wt.length≤4
 w:∀ p∈x.wt,(p.1=0∨p.1=1∨p.1=2∨p.1=3)∧p.2.length≤1024∧1≤x.ask p.1.toNat
 a:∀ k,0≤x.ask k∧x.ask k≤n
 s:∀ q∈x.ends.wins,q.2.ok
theorem wGet_mem {l:Wt} {k:Int} {b:List UInt8} (h:wGet l k=some b):(k,b)∈l:=by
 unfold wGet at h;split at h
 ·rename_i n hn
  obtain ⟨c,hc⟩:=atI_some hn;rw [hc] at h
  injection h with h;subst h
  exact List.mem_of_getElem? hc
 ·cases h
theorem atI_mem {k:Int}:∀ {l:Wt} {p:Int×List UInt8},p∈l→p.1=k→∃ n,atI k l=some n
 | q :: l,p,h,hk=>by
  unfold atI
  by_cases hq:k=q.1
  ·rw [if_pos hq];exact ⟨0,rfl⟩
  ·rw [if_neg hq];rcases List.mem_cons.1 h with rfl|h
   ·exact absurd hk.symm hq
   ·obtain ⟨n,hn⟩:=atI_mem h hk;rw [hn];exact ⟨n + 1,rfl⟩
theorem wGet_in {l:Wt} {p:Int×List UInt8} (h:p∈l):∃ b,wGet l p.1=some b:=by
 obtain ⟨n,hn⟩:=atI_mem h rfl;obtain ⟨b,hb⟩:=atI_some hn;exact ⟨b,by unfold wGet;rw [hn];dsimp only;rw [hb];rfl⟩
theorem Gw.ok.fine {x:Gw} {n:Nat} (h:x.ok n) {p:Int×List UInt8} (hp:p∈x.wt):x.fine p.1:=by
 obtain ⟨b,hb⟩:=wGet_in hp;have h1:=h.w _ (wGet_mem hb);exact ⟨h1.1,by rw [hb];exact h1.2.1,h1.2.2⟩
theorem Gw.ok.keys {x:Gw} {n:Nat} (h:x.ok n):∀ w∈x.keys,x.fine w:=fun w hw=>by
 obtain ⟨p,hp,rfl⟩:=List.mem_map.1 hw;exact h.fine hp
theorem gtick_ac (x:Gw) (n:Nat) (h:x.ok n) (hn:n≤1000000):AC Tryz.prog 34 [.bp 0 0 0] [gB x] (fun v bs'=>v=bss none x.tick.1∧bs'=[gB x.tick.2]):=by
 have h0:=gnone_ac x;have h1:=(pfirst_ac 4 x.wt (by have:=h.l;omega)).ro (r2:=.sl none 1 (iS x.keys)) (by simp only [AV.ro,ro_I];rfl);have h2:=gsend_ac x x.keys h.g (fun s=>by have:=h.f s;omega) (by have:=h.l;unfold Gw.keys;rw [List.length_map];omega) h.keys;unfold Gw.tick;generalize x.sends x.keys=R at *;obtain ⟨out,y⟩:=R;dsimp only at *;refine AC.N Tryz.func34 Tryz.ntmps34 ?_;intro X hρ hmks;refine NX ?_;iterate 4 refine CP.SL ?_
 repeat' (first|((first|refine wA14 ?_|(refine GA ?_;refine ⟨fun hg=>?_,fun hg=>?_⟩)|refine aC4 h0 ?_|refine aC4 h1 ?_|refine aC4 h2 ?_|refine wA15 ?_|(refine GV ?_;intro c hnil;simp only [nz]))<;>(try refine NQ ?_))|refine wT3 ?_|with_reducible intro Q' hQ'|(refine GC ?_;refine ⟨fun hc=>?_,fun hc=>?_⟩)|simp only [la])
 (exact RetQ.A [(0,0)] (by exact ⟨rfl,rfl⟩))
def updA (f:Nat→Int) (k:Nat) (v:Int):Nat→Int:=fun i=>if i=k then v else f i
/-- a request of a client taken -/
def Gw.take (x:Gw) (c:Int) (b:List UInt8):Gw:={ x with ask:=updA x.ask c.toNat (x.ask c.toNat + 1),wt:=x.wt ++ [(c,b)] }
def Gw.submit (x:Gw) (c:Int) (b:List UInt8):(Int×List (List UInt8)×Int)×Gw:=
 if c < 0∨4≤c then ((0,[],2),x) else if 1024 < b.length then ((0,[],3),x) else if (wGet x.wt c).isSome=true then ((0,[],270),x)
 else (((x.take c b).ask c.toNat,((x.take c b).sends [c]).1,0),((x.take c b).sends [c]).2)
theorem gsub_arg (x:Gw) (c:Int) (b:List UInt8) (h:c < 0∨4≤c):AC Tryz.prog 14 [.bp 0 0 0,I c,bs none b] [gB x] (fun v bs'=>v=.tu [I (x.submit c b).1.1,bss none (x.submit c b).1.2.1,I (x.submit c b).1.2.2]∧bs'=[gB (x.submit c b).2]):=by
 have h0:=gnone_ac x;have e:x.submit c b=((0,[],2),x):=if_pos h;rw [e]
 by_cases h1:c < 0
 ·have q1:decide (c < 0)=true:=decide_eq_true h1;refine AC.N Tryz.func14 Tryz.ntmps14 ?_;intro X hρ hmks;refine NX ?_;iterate 4 refine CP.SL ?_
  repeat' (first|((first|refine wA1 ?_|(refine GA ?_;refine ⟨fun hg=>?_,fun hg=>?_⟩)|(refine GV ?_;intro c hnil;simp only [nz])|refine wA2 ?_|refine wD3 ?_)<;>(try simp only [q1,nq,Nat.reduceBEq,Nat.reduceAdd,Nat.reduceSub]))|refine wT2 ?_|with_reducible intro Q' hQ'|(refine GC ?_;refine ⟨fun hc=>?_,fun hc=>?_⟩)|simp only [la])
  (exact RetQ.A [(0,0)] (by exact ⟨rfl,rfl⟩))
 ·have q1:decide (c < 0)=false:=decide_eq_false h1;have q2:decide (4≤c)=true:=decide_eq_true (by omega);refine AC.N Tryz.func14 Tryz.ntmps14 ?_;intro X hρ hmks;refine NX ?_;iterate 4 refine CP.SL ?_
  repeat' (first|((first|refine wA1 ?_|(refine GA ?_;refine ⟨fun hg=>?_,fun hg=>?_⟩)|(refine GV ?_;intro c hnil;simp only [nz])|refine wA2 ?_|refine wD3 ?_)<;>(try simp only [q1,q2,nq,Nat.reduceBEq,Nat.reduceAdd,Nat.reduceSub]))|refine wT2 ?_|with_reducible intro Q' hQ'|(refine GC ?_;refine ⟨fun hc=>?_,fun hc=>?_⟩)|simp only [la])
  (exact RetQ.A [(0,0)] (by exact ⟨rfl,rfl⟩))
theorem gsub_long (x:Gw) (c:Int) (b:List UInt8) (h:¬ (c < 0∨4≤c)) (hb:1024 < b.length) (hb2:b.length≤100000000):AC Tryz.prog 14 [.bp 0 0 0,I c,bs none b] [gB x] (fun v bs'=>v=.tu [I (x.submit c b).1.1,bss none (x.submit c b).1.2.1,I (x.submit c b).1.2.2]∧bs'=[gB (x.submit c b).2]):=by
 have h0:=gnone_ac x;have e:x.submit c b=((0,[],3),x):=by unfold Gw.submit;rw [if_neg h,if_pos hb]
 rw [e];have q1:decide (c < 0)=false:=decide_eq_false (by omega);have q2:decide (4≤c)=false:=decide_eq_false (by omega);have q3:decide ((1024:Int) < (b.length:Int))=true:=by simp;omega
 refine AC.N Tryz.func14 Tryz.ntmps14 ?_;intro X hρ hmks;refine NX ?_;iterate 4 refine CP.SL ?_
 repeat' (first|((first|refine wA1 ?_|(refine GA ?_;refine ⟨fun hg=>?_,fun hg=>?_⟩)|(refine GV ?_;intro c hnil;simp only [nz])|refine wA2 ?_|refine wD3 ?_)<;>(try simp only [q1,q2,q3,nq,Nat.reduceBEq,Nat.reduceAdd,Nat.reduceSub]))|refine wT2 ?_|with_reducible intro Q' hQ'|(refine GC ?_;refine ⟨fun hc=>?_,fun hc=>?_⟩)|simp only [la])
 (exact RetQ.A [(0,0)] (by exact ⟨rfl,rfl⟩))
theorem gsub_busy (x:Gw) (c:Int) (b b0:List UInt8) (h:¬ (c < 0∨4≤c)) (hb:¬ 1024 < b.length) (hw:wGet x.wt c=some b0):AC Tryz.prog 14 [.bp 0 0 0,I c,bs none b] [gB x] (fun v bs'=>v=.tu [I (x.submit c b).1.1,bss none (x.submit c b).1.2.1,I (x.submit c b).1.2.2]∧bs'=[gB (x.submit c b).2]):=by
 have h0:=gnone_ac x;have e:x.submit c b=((0,[],270),x):=by unfold Gw.submit;rw [if_neg h,if_neg hb,hw];rfl
 rw [e];have q1:decide (c < 0)=false:=decide_eq_false (by omega);have q2:decide (4≤c)=false:=decide_eq_false (by omega);have q3:decide ((1024:Int) < (b.length:Int))=false:=by simp;omega
 obtain ⟨k,rfl⟩:∃ k:Nat,c=k:=⟨c.toNat,by omega⟩;have h1:=gwaits_yes x k (by omega) b0 hw;refine AC.N Tryz.func14 Tryz.ntmps14 ?_;intro X hρ hmks;refine NX ?_;iterate 4 refine CP.SL ?_
 repeat' (first|((first|refine wA1 ?_|(refine GA ?_;refine ⟨fun hg=>?_,fun hg=>?_⟩)|(refine GV ?_;intro c hnil;simp only [nz])|refine wA2 ?_|refine wD3 ?_)<;>(try simp only [q1,q2,q3,nq,Nat.reduceBEq,Nat.reduceAdd,Nat.reduceSub]))|refine wT2 ?_|with_reducible intro Q' hQ'|(refine GC ?_;refine ⟨fun hc=>?_,fun hc=>?_⟩)|simp only [la])
 (exact RetQ.A [(0,0)] (by exact ⟨rfl,rfl⟩))
theorem wGet_no {l:Wt} {k:Int} (h:wGet l k=none):atI k l=none:=by
 unfold wGet at h;split at h
 ·rename_i n hn
  obtain ⟨c,hc⟩:=atI_some hn;rw [hc] at h;cases h
 ·assumption
theorem pig:∀ (n:Nat) (l:List Nat),l.Nodup→(∀ x∈l,x < n)→l.length≤n
 | 0,l,_,h=>by
  cases l with
  | nil=>exact Nat.le_refl _
  | cons a l=>exact absurd (h a (by simp)) (by omega)
 | n + 1,l,hn,h=>by
  have h1:=pig n (l.erase n) (hn.erase n) fun x hx=>by
   have h2:=(hn.mem_erase_iff).1 hx;have:=h x h2.2;have:=h2.1;omega
  rw [List.length_erase] at h1;split at h1<;>omega
theorem gsub_ok (x:Gw) (n:Nat) (h:x.ok n) (hn:n≤100000) (k:Nat) (hk:k < 4) (b:List UInt8) (hb:b.length≤1024) (hw:wGet x.wt k=none) (hl:x.wt.length < 4) (hf:(x.take k b).fine k) :
 AC Tryz.prog 14 [.bp 0 0 0,I k,bs none b] [gB x] (fun v bs'=>v=.tu [I (x.ask k + 1),bss none ((x.take k b).sends [(k:Int)]).1,I 0]∧bs'=[gB ((x.take k b).sends [(k:Int)]).2]):=by
 have h0:=gnone_ac x;have h1:=gwaits_no x k hw;have h2:=pput_ac 4 x.wt k b (wGet_no hw) (by omega) (by omega);have h3:=(bclone_ac b (by omega)).ro (r2:=bs none b) (by simp only [AV.ro,ro_B])
 have h4:=gsend_ac (x.take k b) [(k:Int)] ⟨h.g.c,h.g.r,h.g.w,h.g.b⟩ (fun s=>by have:=h.f s;show 0≤got s x.ends.sent 0∧got s x.ends.sent 0≤1000000;omega) (by simp) (fun w hw=>by
  have:w=(k:Int):=by simpa using hw
  subst this;exact hf)
 have q1:decide ((k:Int) < 0)=false:=decide_eq_false (by omega);have q2:decide ((4:Int)≤(k:Int))=false:=decide_eq_false (by omega);have q3:decide ((1024:Int) < (b.length:Int))=false:=by simp;omega
 have q4:IntKind.i64.wrap (x.ask k + 1)=x.ask k + 1:=by have:=h.a k;exact wrap_i64 (by omega) (by omega)
 have h5:=AC.own (args:=[.bp 0 0 0,.sl (some tIn) 1 (iS [(k:Int)])]) h4;clear h4;obtain ⟨out,hout⟩:∃ o,o=((x.take k b).sends [(k:Int)]).1:=⟨_,rfl⟩;obtain ⟨E,hE⟩:∃ E,E=((x.take k b).sends [(k:Int)]).2.ends:=⟨_,rfl⟩;have hy:((x.take k b).sends [(k:Int)]).2={ x.take k b with ends:=E }:=by rw [hE];rfl
 rw [hy,←hout] at h5 ⊢;clear hy hE hout;have hk4:k=0∨k=1∨k=2∨k=3:=by omega
 by_cases hk0:k=0
 ·subst hk0
  replace h5:AC Tryz.prog 42 [.bp 0 0 0,.sl (some tIn) 1 [[I ((0:Nat):Int)]]] [.c tGw [.ob tEn (enE x.ends),I x.cfg.epoch,ms none x.cfg.members,.ob tPl (plC 4 (x.wt ++ [(((0:Nat):Int),b)])),I (x.ask 0 + 1),I (x.ask 1),I (x.ask 2),I (x.ask 3)]] (fun v bs'=>v=bss none out∧bs'=[.c tGw [.ob tEn (enE E),I x.cfg.epoch,ms none x.cfg.members,.ob tPl (plC 4 (x.wt ++ [(((0:Nat):Int),b)])),I (x.ask 0 + 1),I (x.ask 1),I (x.ask 2),I (x.ask 3)]]):=h5
  show AC _ _ _ _ (fun v bs'=>v=.tu [I (x.ask 0 + 1),bss none out,I 0]∧bs'=[.c tGw [.ob tEn (enE E),I x.cfg.epoch,ms none x.cfg.members,.ob tPl (plC 4 (x.wt ++ [(((0:Nat):Int),b)])),I (x.ask 0 + 1),I (x.ask 1),I (x.ask 2),I (x.ask 3)]])
  refine AC.N Tryz.func14 Tryz.ntmps14 ?_;intro X hρ hmks;refine NX ?_;iterate 4 refine CP.SL ?_
  repeat' (first|((first|refine wA1 ?_|(refine GA ?_;refine ⟨fun hg=>?_,fun hg=>?_⟩)|(refine GV ?_;intro c hnil;simp only [nz])|refine aC4 h0 ?_|refine aC4 h1 ?_|refine wA2 ?_)<;>(try simp only [q1,q2,q3,nq,Nat.reduceBEq,Nat.reduceAdd,Nat.reduceSub]))|refine wT6 ?_|with_reducible intro Q' hQ'|(refine GC ?_;refine ⟨fun hc=>?_,fun hc=>?_⟩)|simp only [la])
  first|refine cp_drwX fun Q' hQ'=>?_|refine cp_drawX ?_
  repeat' (first|((first|refine wA1 ?_|(refine GA ?_;refine ⟨fun hg=>?_,fun hg=>?_⟩)|(refine GV ?_;intro c hnil;simp only [nz])|refine wA2 ?_|refine wD3 ?_)<;>(try simp only [q4,nq,Nat.reduceBEq,Nat.reduceAdd,Nat.reduceSub]))|refine wT6 ?_|with_reducible intro Q' hQ'|(refine GC ?_;refine ⟨fun hc=>?_,fun hc=>?_⟩)|simp only [la])
  first|refine cp_drwX fun Q' hQ'=>?_|refine cp_drawX ?_
  repeat' (first|((first|refine wA1 ?_|(refine GA ?_;refine ⟨fun hg=>?_,fun hg=>?_⟩)|(refine GV ?_;intro c hnil;simp only [nz])|refine aC1 h3 ?_|refine aC4 h2 ?_|refine wA2 ?_|refine wD4 ?_|refine dC1 h3 ?_|refine dC3 h2 ?_)<;>(try simp only [q4,nq,Nat.reduceBEq,Nat.reduceAdd,Nat.reduceSub]))|refine wT6 ?_|with_reducible intro Q' hQ'|(refine GC ?_;refine ⟨fun hc=>?_,fun hc=>?_⟩)|simp only [la])
  refine cp_drawI (fun zs zb=>⟨setT zs.t [(50,cond (zb.getD 0 false) (.bp 0 0 0) (.tu [])),(51,cond (zb.getD 1 false) (I ((0:Nat):Int)) (.tu [])),(52,cond (zb.getD 2 false) (.bp 0 0 0) (.tu [])),(53,cond (zb.getD 3 false) (.bp 0 0 4) (.tu [])),(54,cond (zb.getD 4 false) (.bp 0 0 4) (.tu [])),(55,cond (zb.getD 5 false) (I (x.ask 0 + 1)) (.tu [])),(56,cond (zb.getD 6 false) (.bp 0 0 0) (.tu [])),(57,cond (zb.getD 7 false) (I ((0:Nat):Int)) (.tu [])),(58,cond (zb.getD 8 false) (.hd 7 1) (.tu [])),(59,cond (zb.getD 9 false) (bss none out) (.tu [])),(6,cond (zb.getD 10 false) (I (x.ask 0 + 1)) (I 0)),(7,cond (zb.getD 11 false) (bss none out) (.sc (.slice none 0 0))),(8,cond (zb.getD 12 false) (I 0) (I 0))],((((((((zs.b.set 0 (cond (zb.getD 9 false) (⟨0,.c tGw [.bp 3 4 0,I x.cfg.epoch,ms none x.cfg.members,.bp 6 4 0,I (x.ask 0 + 1),I (x.ask 1),I (x.ask 2),I (x.ask 3)]⟩) (zs.b.getD 0 ⟨0,.x⟩))).set 1 (cond (zb.getD 9 false) (⟨4,.m (keyN E.sent) (rowN E.sent) none none⟩) (zs.b.getD 1 ⟨0,.x⟩))).set 2 (cond (zb.getD 9 false) (⟨4,.m (keyW E.wins) (rowW E.wins) none none⟩) (zs.b.getD 2 ⟨0,.x⟩))).set 3 (cond (zb.getD 9 false) (⟨4,.c tEn [B true,bs none E.root,I E.who,I E.boot,.hd 1 4,.hd 2 4]⟩) (zs.b.getD 3 ⟨0,.x⟩))).set 4 (cond (zb.getD 9 false) (⟨5,.r tIn 1 (wKs (x.wt ++ [(((0:Nat):Int),b)]))⟩) (zs.b.getD 4 ⟨0,.x⟩))).set 5 (cond (zb.getD 9 false) (⟨5,.m (wKv (x.wt ++ [(((0:Nat):Int),b)])) (wVs (x.wt ++ [(((0:Nat):Int),b)])) none none⟩) (zs.b.getD 5 ⟨0,.x⟩))).set 6 (cond (zb.getD 9 false) (⟨4,.c tPl [I 4,.hd 4 5,.hd 5 5]⟩) (zs.b.getD 6 ⟨0,.x⟩))).set 7 (cond (zb.getD 9 false) (⟨1,.x⟩) (cond (zb.getD 8 false) (⟨1,.r tIn 1 [[I ((0:Nat):Int)]]⟩) (zs.b.getD 7 ⟨0,.x⟩))))⟩) (by kernel_rfl) (by kernel_rfl) (by kernel_rfl) ?_ ?_
  rotate_left
  simp only [cond_true,cond_false,setT,List.set_cons_succ,List.set_cons_zero,List.getD_cons_succ,List.getD_cons_zero,List.set_cons_succ,List.length_cons,List.length_nil,List.replicate_succ,List.replicate_zero,Nat.reduceAdd]
  rotate_left
  ·intro b hb' hcl;obtain ⟨l0,b0,rfl,hb0⟩:=len_cons hb';obtain ⟨l1,b1,rfl,hb1⟩:=len_cons hb0;obtain ⟨l2,b2,rfl,hb2⟩:=len_cons hb1;obtain ⟨l3,b3,rfl,hb3⟩:=len_cons hb2;obtain ⟨l4,b4,rfl,hb4⟩:=len_cons hb3;obtain ⟨l5,b5,rfl,hb5⟩:=len_cons hb4;obtain ⟨l6,b6,rfl,hb6⟩:=len_cons hb5;obtain ⟨l7,b7,rfl,hb7⟩:=len_cons hb6;obtain ⟨l8,b8,rfl,hb8⟩:=len_cons hb7;obtain ⟨l9,b9,rfl,hb9⟩:=len_cons hb8;obtain ⟨l10,b10,rfl,hb10⟩:=len_cons hb9;obtain ⟨l11,b11,rfl,hb11⟩:=len_cons hb10;obtain ⟨l12,b12,rfl,hb12⟩:=len_cons hb11;obtain rfl:=List.length_eq_zero_iff.1 hb12;clear hb' hb0 hb1 hb2 hb3 hb4 hb5 hb6 hb7 hb8 hb9 hb10 hb11 hb12
   ·simp only [closedB,depsOk,Region.binds,List.toList_toArray,List.all_cons,List.all_nil,List.getD_cons_succ,List.getD_cons_zero,Bool.not_true,Bool.not_false,Bool.true_or,Bool.false_or,Bool.and_true,Bool.true_and,Bool.or_true,Bool.and_false,Bool.or_false,Bool.false_and,Bool.and_eq_true,Bool.or_eq_true,Bool.not_eq_true'] at hcl;simp only [StepsP];refine ⟨?_,?_,?_,?_,?_,?_,?_,?_,?_,?_,?_,?_,?_,trivial⟩
    all_goals
     intro h1 h2;simp [depsOk,Region.binds] at h1 h2;subst h1
     (repeat (obtain ⟨rfl,h2⟩:=h2))
     (try subst h2)
     all_goals (try (cases l8<;>(try (exfalso;grind only))))
     all_goals (try (cases l9<;>(try (exfalso;grind only))))
     all_goals clear hcl
     all_goals refine CD ?_
     all_goals (first|((with_reducible apply AP.k_any);first|(refine AP.sm false rfl ?_ ?_;focus (exact PF0))|(refine AP.el rfl ?_ (by (first|(refine ⟨?_,?_⟩;assumption;rfl)|((try clear kz);exact ⟨mapAt (by (first|omega|(simp;omega)|(simp;done)|assumption)),rfl⟩)|exact ⟨rfl,rfl⟩)) ?_;focus (exact PF0)))|((with_reducible apply AP.k_any);refine AP.B 0 (h5) ?_))
     all_goals (try refine NX ?_)
     all_goals (refine AP.nil ?_;exact ⟨rfl,rfl⟩)
  repeat' (first|((first|refine wA1 ?_|(refine GA ?_;refine ⟨fun hg=>?_,fun hg=>?_⟩)|(refine GV ?_;intro c hnil;simp only [nz])|refine wA2 ?_|refine wD3 ?_)<;>(try refine NQ ?_))|refine wT2 ?_|with_reducible intro Q' hQ'|(refine GC ?_;refine ⟨fun hc=>?_,fun hc=>?_⟩)|simp only [la])
  (exact RetQ.A [(0,0)] (by exact ⟨rfl,rfl⟩))
 by_cases hk1:k=1
 ·subst hk1
  replace h5:AC Tryz.prog 42 [.bp 0 0 0,.sl (some tIn) 1 [[I ((1:Nat):Int)]]] [.c tGw [.ob tEn (enE x.ends),I x.cfg.epoch,ms none x.cfg.members,.ob tPl (plC 4 (x.wt ++ [(((1:Nat):Int),b)])),I (x.ask 0),I (x.ask 1 + 1),I (x.ask 2),I (x.ask 3)]] (fun v bs'=>v=bss none out∧bs'=[.c tGw [.ob tEn (enE E),I x.cfg.epoch,ms none x.cfg.members,.ob tPl (plC 4 (x.wt ++ [(((1:Nat):Int),b)])),I (x.ask 0),I (x.ask 1 + 1),I (x.ask 2),I (x.ask 3)]]):=h5
  show AC _ _ _ _ (fun v bs'=>v=.tu [I (x.ask 1 + 1),bss none out,I 0]∧bs'=[.c tGw [.ob tEn (enE E),I x.cfg.epoch,ms none x.cfg.members,.ob tPl (plC 4 (x.wt ++ [(((1:Nat):Int),b)])),I (x.ask 0),I (x.ask 1 + 1),I (x.ask 2),I (x.ask 3)]])
  refine AC.N Tryz.func14 Tryz.ntmps14 ?_;intro X hρ hmks;refine NX ?_;iterate 4 refine CP.SL ?_
  repeat' (first|((first|refine wA1 ?_|(refine GA ?_;refine ⟨fun hg=>?_,fun hg=>?_⟩)|(refine GV ?_;intro c hnil;simp only [nz])|refine aC4 h0 ?_|refine aC4 h1 ?_|refine wA2 ?_)<;>(try simp only [q1,q2,q3,nq,Nat.reduceBEq,Nat.reduceAdd,Nat.reduceSub]))|refine wT6 ?_|with_reducible intro Q' hQ'|(refine GC ?_;refine ⟨fun hc=>?_,fun hc=>?_⟩)|simp only [la])
  first|refine cp_drwX fun Q' hQ'=>?_|refine cp_drawX ?_
  repeat' (first|((first|refine wA1 ?_|(refine GA ?_;refine ⟨fun hg=>?_,fun hg=>?_⟩)|(refine GV ?_;intro c hnil;simp only [nz])|refine wA2 ?_|refine wD3 ?_)<;>(try simp only [q4,nq,Nat.reduceBEq,Nat.reduceAdd,Nat.reduceSub]))|refine wT6 ?_|with_reducible intro Q' hQ'|(refine GC ?_;refine ⟨fun hc=>?_,fun hc=>?_⟩)|simp only [la])
  first|refine cp_drwX fun Q' hQ'=>?_|refine cp_drawX ?_
  repeat' (first|((first|refine wA1 ?_|(refine GA ?_;refine ⟨fun hg=>?_,fun hg=>?_⟩)|(refine GV ?_;intro c hnil;simp only [nz])|refine aC1 h3 ?_|refine aC4 h2 ?_|refine wA2 ?_|refine wD4 ?_|refine dC1 h3 ?_|refine dC3 h2 ?_)<;>(try simp only [q4,nq,Nat.reduceBEq,Nat.reduceAdd,Nat.reduceSub]))|refine wT6 ?_|with_reducible intro Q' hQ'|(refine GC ?_;refine ⟨fun hc=>?_,fun hc=>?_⟩)|simp only [la])
  refine cp_drawI (fun zs zb=>⟨setT zs.t [(50,cond (zb.getD 0 false) (.bp 0 0 0) (.tu [])),(51,cond (zb.getD 1 false) (I ((1:Nat):Int)) (.tu [])),(52,cond (zb.getD 2 false) (.bp 0 0 0) (.tu [])),(53,cond (zb.getD 3 false) (.bp 0 0 4) (.tu [])),(54,cond (zb.getD 4 false) (.bp 0 0 5) (.tu [])),(55,cond (zb.getD 5 false) (I (x.ask 1 + 1)) (.tu [])),(56,cond (zb.getD 6 false) (.bp 0 0 0) (.tu [])),(57,cond (zb.getD 7 false) (I ((1:Nat):Int)) (.tu [])),(58,cond (zb.getD 8 false) (.hd 7 1) (.tu [])),(59,cond (zb.getD 9 false) (bss none out) (.tu [])),(6,cond (zb.getD 10 false) (I (x.ask 1 + 1)) (I 0)),(7,cond (zb.getD 11 false) (bss none out) (.sc (.slice none 0 0))),(8,cond (zb.getD 12 false) (I 0) (I 0))],((((((((zs.b.set 0 (cond (zb.getD 9 false) (⟨0,.c tGw [.bp 3 4 0,I x.cfg.epoch,ms none x.cfg.members,.bp 6 4 0,I (x.ask 0),I (x.ask 1 + 1),I (x.ask 2),I (x.ask 3)]⟩) (zs.b.getD 0 ⟨0,.x⟩))).set 1 (cond (zb.getD 9 false) (⟨4,.m (keyN E.sent) (rowN E.sent) none none⟩) (zs.b.getD 1 ⟨0,.x⟩))).set 2 (cond (zb.getD 9 false) (⟨4,.m (keyW E.wins) (rowW E.wins) none none⟩) (zs.b.getD 2 ⟨0,.x⟩))).set 3 (cond (zb.getD 9 false) (⟨4,.c tEn [B true,bs none E.root,I E.who,I E.boot,.hd 1 4,.hd 2 4]⟩) (zs.b.getD 3 ⟨0,.x⟩))).set 4 (cond (zb.getD 9 false) (⟨5,.r tIn 1 (wKs (x.wt ++ [(((1:Nat):Int),b)]))⟩) (zs.b.getD 4 ⟨0,.x⟩))).set 5 (cond (zb.getD 9 false) (⟨5,.m (wKv (x.wt ++ [(((1:Nat):Int),b)])) (wVs (x.wt ++ [(((1:Nat):Int),b)])) none none⟩) (zs.b.getD 5 ⟨0,.x⟩))).set 6 (cond (zb.getD 9 false) (⟨4,.c tPl [I 4,.hd 4 5,.hd 5 5]⟩) (zs.b.getD 6 ⟨0,.x⟩))).set 7 (cond (zb.getD 9 false) (⟨1,.x⟩) (cond (zb.getD 8 false) (⟨1,.r tIn 1 [[I ((1:Nat):Int)]]⟩) (zs.b.getD 7 ⟨0,.x⟩))))⟩) (by kernel_rfl) (by kernel_rfl) (by kernel_rfl) ?_ ?_
  rotate_left
  simp only [cond_true,cond_false,setT,List.set_cons_succ,List.set_cons_zero,List.getD_cons_succ,List.getD_cons_zero,List.set_cons_succ,List.length_cons,List.length_nil,List.replicate_succ,List.replicate_zero,Nat.reduceAdd]
  rotate_left
  ·intro b hb' hcl;obtain ⟨l0,b0,rfl,hb0⟩:=len_cons hb';obtain ⟨l1,b1,rfl,hb1⟩:=len_cons hb0;obtain ⟨l2,b2,rfl,hb2⟩:=len_cons hb1;obtain ⟨l3,b3,rfl,hb3⟩:=len_cons hb2;obtain ⟨l4,b4,rfl,hb4⟩:=len_cons hb3;obtain ⟨l5,b5,rfl,hb5⟩:=len_cons hb4;obtain ⟨l6,b6,rfl,hb6⟩:=len_cons hb5;obtain ⟨l7,b7,rfl,hb7⟩:=len_cons hb6;obtain ⟨l8,b8,rfl,hb8⟩:=len_cons hb7;obtain ⟨l9,b9,rfl,hb9⟩:=len_cons hb8;obtain ⟨l10,b10,rfl,hb10⟩:=len_cons hb9;obtain ⟨l11,b11,rfl,hb11⟩:=len_cons hb10;obtain ⟨l12,b12,rfl,hb12⟩:=len_cons hb11;obtain rfl:=List.length_eq_zero_iff.1 hb12;clear hb' hb0 hb1 hb2 hb3 hb4 hb5 hb6 hb7 hb8 hb9 hb10 hb11 hb12
   ·simp only [closedB,depsOk,Region.binds,List.toList_toArray,List.all_cons,List.all_nil,List.getD_cons_succ,List.getD_cons_zero,Bool.not_true,Bool.not_false,Bool.true_or,Bool.false_or,Bool.and_true,Bool.true_and,Bool.or_true,Bool.and_false,Bool.or_false,Bool.false_and,Bool.and_eq_true,Bool.or_eq_true,Bool.not_eq_true'] at hcl;simp only [StepsP];refine ⟨?_,?_,?_,?_,?_,?_,?_,?_,?_,?_,?_,?_,?_,trivial⟩
    all_goals
     intro h1 h2;simp [depsOk,Region.binds] at h1 h2;subst h1
     (repeat (obtain ⟨rfl,h2⟩:=h2))
     (try subst h2)
     all_goals (try (cases l8<;>(try (exfalso;grind only))))
     all_goals (try (cases l9<;>(try (exfalso;grind only))))
     all_goals clear hcl
     all_goals refine CD ?_
     all_goals (first|((with_reducible apply AP.k_any);first|(refine AP.sm false rfl ?_ ?_;focus (exact PF0))|(refine AP.el rfl ?_ (by (first|(refine ⟨?_,?_⟩;assumption;rfl)|((try clear kz);exact ⟨mapAt (by (first|omega|(simp;omega)|(simp;done)|assumption)),rfl⟩)|exact ⟨rfl,rfl⟩)) ?_;focus (exact PF0)))|((with_reducible apply AP.k_any);refine AP.B 0 (h5) ?_))
     all_goals (try refine NX ?_)
     all_goals (refine AP.nil ?_;exact ⟨rfl,rfl⟩)
  repeat' (first|((first|refine wA1 ?_|(refine GA ?_;refine ⟨fun hg=>?_,fun hg=>?_⟩)|(refine GV ?_;intro c hnil;simp only [nz])|refine wA2 ?_|refine wD3 ?_)<;>(try refine NQ ?_))|refine wT2 ?_|with_reducible intro Q' hQ'|(refine GC ?_;refine ⟨fun hc=>?_,fun hc=>?_⟩)|simp only [la])
  (exact RetQ.A [(0,0)] (by exact ⟨rfl,rfl⟩))
 by_cases hk2:k=2
 ·subst hk2
  replace h5:AC Tryz.prog 42 [.bp 0 0 0,.sl (some tIn) 1 [[I ((2:Nat):Int)]]] [.c tGw [.ob tEn (enE x.ends),I x.cfg.epoch,ms none x.cfg.members,.ob tPl (plC 4 (x.wt ++ [(((2:Nat):Int),b)])),I (x.ask 0),I (x.ask 1),I (x.ask 2 + 1),I (x.ask 3)]] (fun v bs'=>v=bss none out∧bs'=[.c tGw [.ob tEn (enE E),I x.cfg.epoch,ms none x.cfg.members,.ob tPl (plC 4 (x.wt ++ [(((2:Nat):Int),b)])),I (x.ask 0),I (x.ask 1),I (x.ask 2 + 1),I (x.ask 3)]]):=h5
  show AC _ _ _ _ (fun v bs'=>v=.tu [I (x.ask 2 + 1),bss none out,I 0]∧bs'=[.c tGw [.ob tEn (enE E),I x.cfg.epoch,ms none x.cfg.members,.ob tPl (plC 4 (x.wt ++ [(((2:Nat):Int),b)])),I (x.ask 0),I (x.ask 1),I (x.ask 2 + 1),I (x.ask 3)]])
  refine AC.N Tryz.func14 Tryz.ntmps14 ?_;intro X hρ hmks;refine NX ?_;iterate 4 refine CP.SL ?_
  repeat' (first|((first|refine wA1 ?_|(refine GA ?_;refine ⟨fun hg=>?_,fun hg=>?_⟩)|(refine GV ?_;intro c hnil;simp only [nz])|refine aC4 h0 ?_|refine aC4 h1 ?_|refine wA2 ?_)<;>(try simp only [q1,q2,q3,nq,Nat.reduceBEq,Nat.reduceAdd,Nat.reduceSub]))|refine wT6 ?_|with_reducible intro Q' hQ'|(refine GC ?_;refine ⟨fun hc=>?_,fun hc=>?_⟩)|simp only [la])
  first|refine cp_drwX fun Q' hQ'=>?_|refine cp_drawX ?_
  repeat' (first|((first|refine wA1 ?_|(refine GA ?_;refine ⟨fun hg=>?_,fun hg=>?_⟩)|(refine GV ?_;intro c hnil;simp only [nz])|refine wA2 ?_|refine wD3 ?_)<;>(try simp only [q4,nq,Nat.reduceBEq,Nat.reduceAdd,Nat.reduceSub]))|refine wT6 ?_|with_reducible intro Q' hQ'|(refine GC ?_;refine ⟨fun hc=>?_,fun hc=>?_⟩)|simp only [la])
  first|refine cp_drwX fun Q' hQ'=>?_|refine cp_drawX ?_
  repeat' (first|((first|refine wA1 ?_|(refine GA ?_;refine ⟨fun hg=>?_,fun hg=>?_⟩)|(refine GV ?_;intro c hnil;simp only [nz])|refine aC1 h3 ?_|refine aC4 h2 ?_|refine wA2 ?_|refine wD4 ?_|refine dC1 h3 ?_|refine dC3 h2 ?_)<;>(try simp only [q4,nq,Nat.reduceBEq,Nat.reduceAdd,Nat.reduceSub]))|refine wT6 ?_|with_reducible intro Q' hQ'|(refine GC ?_;refine ⟨fun hc=>?_,fun hc=>?_⟩)|simp only [la])
  refine cp_drawI (fun zs zb=>⟨setT zs.t [(50,cond (zb.getD 0 false) (.bp 0 0 0) (.tu [])),(51,cond (zb.getD 1 false) (I ((2:Nat):Int)) (.tu [])),(52,cond (zb.getD 2 false) (.bp 0 0 0) (.tu [])),(53,cond (zb.getD 3 false) (.bp 0 0 4) (.tu [])),(54,cond (zb.getD 4 false) (.bp 0 0 6) (.tu [])),(55,cond (zb.getD 5 false) (I (x.ask 2 + 1)) (.tu [])),(56,cond (zb.getD 6 false) (.bp 0 0 0) (.tu [])),(57,cond (zb.getD 7 false) (I ((2:Nat):Int)) (.tu [])),(58,cond (zb.getD 8 false) (.hd 7 1) (.tu [])),(59,cond (zb.getD 9 false) (bss none out) (.tu [])),(6,cond (zb.getD 10 false) (I (x.ask 2 + 1)) (I 0)),(7,cond (zb.getD 11 false) (bss none out) (.sc (.slice none 0 0))),(8,cond (zb.getD 12 false) (I 0) (I 0))],((((((((zs.b.set 0 (cond (zb.getD 9 false) (⟨0,.c tGw [.bp 3 4 0,I x.cfg.epoch,ms none x.cfg.members,.bp 6 4 0,I (x.ask 0),I (x.ask 1),I (x.ask 2 + 1),I (x.ask 3)]⟩) (zs.b.getD 0 ⟨0,.x⟩))).set 1 (cond (zb.getD 9 false) (⟨4,.m (keyN E.sent) (rowN E.sent) none none⟩) (zs.b.getD 1 ⟨0,.x⟩))).set 2 (cond (zb.getD 9 false) (⟨4,.m (keyW E.wins) (rowW E.wins) none none⟩) (zs.b.getD 2 ⟨0,.x⟩))).set 3 (cond (zb.getD 9 false) (⟨4,.c tEn [B true,bs none E.root,I E.who,I E.boot,.hd 1 4,.hd 2 4]⟩) (zs.b.getD 3 ⟨0,.x⟩))).set 4 (cond (zb.getD 9 false) (⟨5,.r tIn 1 (wKs (x.wt ++ [(((2:Nat):Int),b)]))⟩) (zs.b.getD 4 ⟨0,.x⟩))).set 5 (cond (zb.getD 9 false) (⟨5,.m (wKv (x.wt ++ [(((2:Nat):Int),b)])) (wVs (x.wt ++ [(((2:Nat):Int),b)])) none none⟩) (zs.b.getD 5 ⟨0,.x⟩))).set 6 (cond (zb.getD 9 false) (⟨4,.c tPl [I 4,.hd 4 5,.hd 5 5]⟩) (zs.b.getD 6 ⟨0,.x⟩))).set 7 (cond (zb.getD 9 false) (⟨1,.x⟩) (cond (zb.getD 8 false) (⟨1,.r tIn 1 [[I ((2:Nat):Int)]]⟩) (zs.b.getD 7 ⟨0,.x⟩))))⟩) (by kernel_rfl) (by kernel_rfl) (by kernel_rfl) ?_ ?_
  rotate_left
  simp only [cond_true,cond_false,setT,List.set_cons_succ,List.set_cons_zero,List.getD_cons_succ,List.getD_cons_zero,List.set_cons_succ,List.length_cons,List.length_nil,List.replicate_succ,List.replicate_zero,Nat.reduceAdd]
  rotate_left
  ·intro b hb' hcl;obtain ⟨l0,b0,rfl,hb0⟩:=len_cons hb';obtain ⟨l1,b1,rfl,hb1⟩:=len_cons hb0;obtain ⟨l2,b2,rfl,hb2⟩:=len_cons hb1;obtain ⟨l3,b3,rfl,hb3⟩:=len_cons hb2;obtain ⟨l4,b4,rfl,hb4⟩:=len_cons hb3;obtain ⟨l5,b5,rfl,hb5⟩:=len_cons hb4;obtain ⟨l6,b6,rfl,hb6⟩:=len_cons hb5;obtain ⟨l7,b7,rfl,hb7⟩:=len_cons hb6;obtain ⟨l8,b8,rfl,hb8⟩:=len_cons hb7;obtain ⟨l9,b9,rfl,hb9⟩:=len_cons hb8;obtain ⟨l10,b10,rfl,hb10⟩:=len_cons hb9;obtain ⟨l11,b11,rfl,hb11⟩:=len_cons hb10;obtain ⟨l12,b12,rfl,hb12⟩:=len_cons hb11;obtain rfl:=List.length_eq_zero_iff.1 hb12;clear hb' hb0 hb1 hb2 hb3 hb4 hb5 hb6 hb7 hb8 hb9 hb10 hb11 hb12
   ·simp only [closedB,depsOk,Region.binds,List.toList_toArray,List.all_cons,List.all_nil,List.getD_cons_succ,List.getD_cons_zero,Bool.not_true,Bool.not_false,Bool.true_or,Bool.false_or,Bool.and_true,Bool.true_and,Bool.or_true,Bool.and_false,Bool.or_false,Bool.false_and,Bool.and_eq_true,Bool.or_eq_true,Bool.not_eq_true'] at hcl;simp only [StepsP];refine ⟨?_,?_,?_,?_,?_,?_,?_,?_,?_,?_,?_,?_,?_,trivial⟩
    all_goals
     intro h1 h2;simp [depsOk,Region.binds] at h1 h2;subst h1
     (repeat (obtain ⟨rfl,h2⟩:=h2))
     (try subst h2)
     all_goals (try (cases l8<;>(try (exfalso;grind only))))
     all_goals (try (cases l9<;>(try (exfalso;grind only))))
     all_goals clear hcl
     all_goals refine CD ?_
     all_goals (first|((with_reducible apply AP.k_any);first|(refine AP.sm false rfl ?_ ?_;focus (exact PF0))|(refine AP.el rfl ?_ (by (first|(refine ⟨?_,?_⟩;assumption;rfl)|((try clear kz);exact ⟨mapAt (by (first|omega|(simp;omega)|(simp;done)|assumption)),rfl⟩)|exact ⟨rfl,rfl⟩)) ?_;focus (exact PF0)))|((with_reducible apply AP.k_any);refine AP.B 0 (h5) ?_))
     all_goals (try refine NX ?_)
     all_goals (refine AP.nil ?_;exact ⟨rfl,rfl⟩)
  repeat' (first|((first|refine wA1 ?_|(refine GA ?_;refine ⟨fun hg=>?_,fun hg=>?_⟩)|(refine GV ?_;intro c hnil;simp only [nz])|refine wA2 ?_|refine wD3 ?_)<;>(try refine NQ ?_))|refine wT2 ?_|with_reducible intro Q' hQ'|(refine GC ?_;refine ⟨fun hc=>?_,fun hc=>?_⟩)|simp only [la])
  (exact RetQ.A [(0,0)] (by exact ⟨rfl,rfl⟩))
 by_cases hk3:k=3
 ·subst hk3
  replace h5:AC Tryz.prog 42 [.bp 0 0 0,.sl (some tIn) 1 [[I ((3:Nat):Int)]]] [.c tGw [.ob tEn (enE x.ends),I x.cfg.epoch,ms none x.cfg.members,.ob tPl (plC 4 (x.wt ++ [(((3:Nat):Int),b)])),I (x.ask 0),I (x.ask 1),I (x.ask 2),I (x.ask 3 + 1)]] (fun v bs'=>v=bss none out∧bs'=[.c tGw [.ob tEn (enE E),I x.cfg.epoch,ms none x.cfg.members,.ob tPl (plC 4 (x.wt ++ [(((3:Nat):Int),b)])),I (x.ask 0),I (x.ask 1),I (x.ask 2),I (x.ask 3 + 1)]]):=h5
  show AC _ _ _ _ (fun v bs'=>v=.tu [I (x.ask 3 + 1),bss none out,I 0]∧bs'=[.c tGw [.ob tEn (enE E),I x.cfg.epoch,ms none x.cfg.members,.ob tPl (plC 4 (x.wt ++ [(((3:Nat):Int),b)])),I (x.ask 0),I (x.ask 1),I (x.ask 2),I (x.ask 3 + 1)]])
  refine AC.N Tryz.func14 Tryz.ntmps14 ?_;intro X hρ hmks;refine NX ?_;iterate 4 refine CP.SL ?_
  repeat' (first|((first|refine wA1 ?_|(refine GA ?_;refine ⟨fun hg=>?_,fun hg=>?_⟩)|(refine GV ?_;intro c hnil;simp only [nz])|refine aC4 h0 ?_|refine aC4 h1 ?_|refine wA2 ?_)<;>(try simp only [q1,q2,q3,nq,Nat.reduceBEq,Nat.reduceAdd,Nat.reduceSub]))|refine wT6 ?_|with_reducible intro Q' hQ'|(refine GC ?_;refine ⟨fun hc=>?_,fun hc=>?_⟩)|simp only [la])
  first|refine cp_drwX fun Q' hQ'=>?_|refine cp_drawX ?_
  repeat' (first|((first|refine wA1 ?_|(refine GA ?_;refine ⟨fun hg=>?_,fun hg=>?_⟩)|(refine GV ?_;intro c hnil;simp only [nz])|refine wA2 ?_|refine wD3 ?_)<;>(try simp only [q4,nq,Nat.reduceBEq,Nat.reduceAdd,Nat.reduceSub]))|refine wT6 ?_|with_reducible intro Q' hQ'|(refine GC ?_;refine ⟨fun hc=>?_,fun hc=>?_⟩)|simp only [la])
  first|refine cp_drwX fun Q' hQ'=>?_|refine cp_drawX ?_
  repeat' (first|((first|refine wA1 ?_|(refine GA ?_;refine ⟨fun hg=>?_,fun hg=>?_⟩)|(refine GV ?_;intro c hnil;simp only [nz])|refine aC1 h3 ?_|refine aC4 h2 ?_|refine wA2 ?_|refine wD4 ?_|refine dC1 h3 ?_|refine dC3 h2 ?_)<;>(try simp only [q4,nq,Nat.reduceBEq,Nat.reduceAdd,Nat.reduceSub]))|refine wT6 ?_|with_reducible intro Q' hQ'|(refine GC ?_;refine ⟨fun hc=>?_,fun hc=>?_⟩)|simp only [la])
  refine cp_drawI (fun zs zb=>⟨setT zs.t [(50,cond (zb.getD 0 false) (.bp 0 0 0) (.tu [])),(51,cond (zb.getD 1 false) (I ((3:Nat):Int)) (.tu [])),(52,cond (zb.getD 2 false) (.bp 0 0 0) (.tu [])),(53,cond (zb.getD 3 false) (.bp 0 0 4) (.tu [])),(54,cond (zb.getD 4 false) (.bp 0 0 7) (.tu [])),(55,cond (zb.getD 5 false) (I (x.ask 3 + 1)) (.tu [])),(56,cond (zb.getD 6 false) (.bp 0 0 0) (.tu [])),(57,cond (zb.getD 7 false) (I ((3:Nat):Int)) (.tu [])),(58,cond (zb.getD 8 false) (.hd 7 1) (.tu [])),(59,cond (zb.getD 9 false) (bss none out) (.tu [])),(6,cond (zb.getD 10 false) (I (x.ask 3 + 1)) (I 0)),(7,cond (zb.getD 11 false) (bss none out) (.sc (.slice none 0 0))),(8,cond (zb.getD 12 false) (I 0) (I 0))],((((((((zs.b.set 0 (cond (zb.getD 9 false) (⟨0,.c tGw [.bp 3 4 0,I x.cfg.epoch,ms none x.cfg.members,.bp 6 4 0,I (x.ask 0),I (x.ask 1),I (x.ask 2),I (x.ask 3 + 1)]⟩) (zs.b.getD 0 ⟨0,.x⟩))).set 1 (cond (zb.getD 9 false) (⟨4,.m (keyN E.sent) (rowN E.sent) none none⟩) (zs.b.getD 1 ⟨0,.x⟩))).set 2 (cond (zb.getD 9 false) (⟨4,.m (keyW E.wins) (rowW E.wins) none none⟩) (zs.b.getD 2 ⟨0,.x⟩))).set 3 (cond (zb.getD 9 false) (⟨4,.c tEn [B true,bs none E.root,I E.who,I E.boot,.hd 1 4,.hd 2 4]⟩) (zs.b.getD 3 ⟨0,.x⟩))).set 4 (cond (zb.getD 9 false) (⟨5,.r tIn 1 (wKs (x.wt ++ [(((3:Nat):Int),b)]))⟩) (zs.b.getD 4 ⟨0,.x⟩))).set 5 (cond (zb.getD 9 false) (⟨5,.m (wKv (x.wt ++ [(((3:Nat):Int),b)])) (wVs (x.wt ++ [(((3:Nat):Int),b)])) none none⟩) (zs.b.getD 5 ⟨0,.x⟩))).set 6 (cond (zb.getD 9 false) (⟨4,.c tPl [I 4,.hd 4 5,.hd 5 5]⟩) (zs.b.getD 6 ⟨0,.x⟩))).set 7 (cond (zb.getD 9 false) (⟨1,.x⟩) (cond (zb.getD 8 false) (⟨1,.r tIn 1 [[I ((3:Nat):Int)]]⟩) (zs.b.getD 7 ⟨0,.x⟩))))⟩) (by kernel_rfl) (by kernel_rfl) (by kernel_rfl) ?_ ?_
  rotate_left
  simp only [cond_true,cond_false,setT,List.set_cons_succ,List.set_cons_zero,List.getD_cons_succ,List.getD_cons_zero,List.set_cons_succ,List.length_cons,List.length_nil,List.replicate_succ,List.replicate_zero,Nat.reduceAdd]
  rotate_left
  ·intro b hb' hcl;obtain ⟨l0,b0,rfl,hb0⟩:=len_cons hb';obtain ⟨l1,b1,rfl,hb1⟩:=len_cons hb0;obtain ⟨l2,b2,rfl,hb2⟩:=len_cons hb1;obtain ⟨l3,b3,rfl,hb3⟩:=len_cons hb2;obtain ⟨l4,b4,rfl,hb4⟩:=len_cons hb3;obtain ⟨l5,b5,rfl,hb5⟩:=len_cons hb4;obtain ⟨l6,b6,rfl,hb6⟩:=len_cons hb5;obtain ⟨l7,b7,rfl,hb7⟩:=len_cons hb6;obtain ⟨l8,b8,rfl,hb8⟩:=len_cons hb7;obtain ⟨l9,b9,rfl,hb9⟩:=len_cons hb8;obtain ⟨l10,b10,rfl,hb10⟩:=len_cons hb9;obtain ⟨l11,b11,rfl,hb11⟩:=len_cons hb10;obtain ⟨l12,b12,rfl,hb12⟩:=len_cons hb11;obtain rfl:=List.length_eq_zero_iff.1 hb12;clear hb' hb0 hb1 hb2 hb3 hb4 hb5 hb6 hb7 hb8 hb9 hb10 hb11 hb12
   ·simp only [closedB,depsOk,Region.binds,List.toList_toArray,List.all_cons,List.all_nil,List.getD_cons_succ,List.getD_cons_zero,Bool.not_true,Bool.not_false,Bool.true_or,Bool.false_or,Bool.and_true,Bool.true_and,Bool.or_true,Bool.and_false,Bool.or_false,Bool.false_and,Bool.and_eq_true,Bool.or_eq_true,Bool.not_eq_true'] at hcl;simp only [StepsP];refine ⟨?_,?_,?_,?_,?_,?_,?_,?_,?_,?_,?_,?_,?_,trivial⟩
    all_goals
     intro h1 h2;simp [depsOk,Region.binds] at h1 h2;subst h1
     (repeat (obtain ⟨rfl,h2⟩:=h2))
     (try subst h2)
     all_goals (try (cases l8<;>(try (exfalso;grind only))))
     all_goals (try (cases l9<;>(try (exfalso;grind only))))
     all_goals clear hcl
     all_goals refine CD ?_
     all_goals (first|((with_reducible apply AP.k_any);first|(refine AP.sm false rfl ?_ ?_;focus (exact PF0))|(refine AP.el rfl ?_ (by (first|(refine ⟨?_,?_⟩;assumption;rfl)|((try clear kz);exact ⟨mapAt (by (first|omega|(simp;omega)|(simp;done)|assumption)),rfl⟩)|exact ⟨rfl,rfl⟩)) ?_;focus (exact PF0)))|((with_reducible apply AP.k_any);refine AP.B 0 (h5) ?_))
     all_goals (try refine NX ?_)
     all_goals (refine AP.nil ?_;exact ⟨rfl,rfl⟩)
  repeat' (first|((first|refine wA1 ?_|(refine GA ?_;refine ⟨fun hg=>?_,fun hg=>?_⟩)|(refine GV ?_;intro c hnil;simp only [nz])|refine wA2 ?_|refine wD3 ?_)<;>(try refine NQ ?_))|refine wT2 ?_|with_reducible intro Q' hQ'|(refine GC ?_;refine ⟨fun hc=>?_,fun hc=>?_⟩)|simp only [la])
  (exact RetQ.A [(0,0)] (by exact ⟨rfl,rfl⟩))
 omega
abbrev tRp:TypeId:=58
abbrev tSg:TypeId:=9
structure Lnk where
 n:Int
 st:Int
 op:UInt8
 ten:Int
 a:Int
 b:Int
 c:Int
 ahead:List UInt8
 self:List UInt8
structure Rep where
 err:Int
 val:List UInt8
 keys:List (List UInt8)
 n:Int
 lnk:Lnk
abbrev S (l:List UInt8):AV:=.sc (str l)
abbrev eT (l:List UInt8):List AV:=[S l]
abbrev ts (o:Option TypeId) (l:List (List UInt8)):AV:=.sl o 1 (l.map eT)
abbrev eRpO (o:Option TypeId) (r:Rep):List AV:=[I r.err,S r.val,ts o r.keys,I r.n,I r.lnk.n,I r.lnk.st,U r.lnk.op,I r.lnk.ten,I r.lnk.a,I r.lnk.b,I r.lnk.c,U (r.lnk.ahead.getD 0 0),U (r.lnk.ahead.getD 1 0),U (r.lnk.ahead.getD 2 0),U (r.lnk.ahead.getD 3 0),U (r.lnk.ahead.getD 4 0),U (r.lnk.ahead.getD 5 0),U (r.lnk.ahead.getD 6 0),U (r.lnk.ahead.getD 7 0),U (r.lnk.ahead.getD 8 0),U (r.lnk.ahead.getD 9 0),U (r.lnk.ahead.getD 10 0),U (r.lnk.ahead.getD 11 0),U (r.lnk.ahead.getD 12 0),U (r.lnk.ahead.getD 13 0),U (r.lnk.ahead.getD 14 0),U (r.lnk.ahead.getD 15 0),U (r.lnk.ahead.getD 16 0),U (r.lnk.ahead.getD 17 0),U (r.lnk.ahead.getD 18 0),U (r.lnk.ahead.getD 19 0),U (r.lnk.ahead.getD 20 0),U (r.lnk.ahead.getD 21 0),U (r.lnk.ahead.getD 22 0),U (r.lnk.ahead.getD 23 0),U (r.lnk.ahead.getD 24 0),U (r.lnk.ahead.getD 25 0),U (r.lnk.ahead.getD 26 0),U (r.lnk.ahead.getD 27 0),U (r.lnk.ahead.getD 28 0),U (r.lnk.ahead.getD 29 0),U (r.lnk.ahead.getD 30 0),U (r.lnk.ahead.getD 31 0),U (r.lnk.self.getD 0 0),U (r.lnk.self.getD 1 0),U (r.lnk.self.getD 2 0),U (r.lnk.self.getD 3 0),U (r.lnk.self.getD 4 0),U (r.lnk.self.getD 5 0),U (r.lnk.self.getD 6 0),U (r.lnk.self.getD 7 0),U (r.lnk.self.getD 8 0),U (r.lnk.self.getD 9 0),U (r.lnk.self.getD 10 0),U (r.lnk.self.getD 11 0),U (r.lnk.self.getD 12 0),U (r.lnk.self.getD 13 0),U (r.lnk.self.getD 14 0),U (r.lnk.self.getD 15 0),U (r.lnk.self.getD 16 0),U (r.lnk.self.getD 17 0),U (r.lnk.self.getD 18 0),U (r.lnk.self.getD 19 0),U (r.lnk.self.getD 20 0),U (r.lnk.self.getD 21 0),U (r.lnk.self.getD 22 0),U (r.lnk.self.getD 23 0),U (r.lnk.self.getD 24 0),U (r.lnk.self.getD 25 0),U (r.lnk.self.getD 26 0),U (r.lnk.self.getD 27 0),U (r.lnk.self.getD 28 0),U (r.lnk.self.getD 29 0),U (r.lnk.self.getD 30 0),U (r.lnk.self.getD 31 0)]
abbrev eRp (r:Rep):List AV:=eRpO none r
def lk0:Lnk:=⟨0,0,0,0,0,0,0,z32,z32⟩
def rp0:Rep:=⟨0,[],[],0,lk0⟩
def longS (l:List UInt8):Bool:=decide (512 < l.length)
def mayRp (r:Rep):Bool:=decide (r.keys.length≤16) && !(longS r.val) && !(r.keys.any longS)
theorem long_ac (l:List UInt8) (h:l.length≤100000000):AC Tryz.prog 189 [S l] [] (fun v bs'=>v=B (longS l)∧bs'=[]):=by
 have e:longS l=decide (512 < (l.length:Int)):=by unfold longS;rw [Bool.eq_iff_iff];simp;omega
 rw [e];refine AC.N Tryz.func189 Tryz.ntmps189 ?_;intro X hρ hmks;refine NX ?_;refine W1 ?_;(exact RetQ.A [] (by exact ⟨rfl,rfl⟩))
def fstL:Nat→List (List UInt8)→Int
 | _,[]=>-1
 | i,x :: l=>if longS x=true then i else fstL (i + 1) l
theorem fstL_any:∀ (l:List (List UInt8)) (i:Nat),decide (0≤fstL i l)=l.any longS
 | [],_=>rfl
 | x :: l,i=>by
  unfold fstL;rw [List.any_cons]
  cases longS x with
  | true=>simp
  | false=>simpa using fstL_any l (i + 1)
theorem tidx_ac (l:List (List UInt8)) (hl:l.length≤1000000) (hb:∀ x∈l,x.length≤100000000) :
 AC Tryz.prog 223 [ts none l,.fn 189 []] [] (fun v bs'=>v=I (fstL 0 l)∧bs'=[]):=by
 refine AC.N Tryz.func223 Tryz.ntmps223 ?_;intro X hρ hmks;refine NX ?_
 repeat' (first|((first|refine wA1 ?_|(refine GA ?_;refine ⟨fun hg=>?_,fun hg=>?_⟩)|(refine GV ?_;intro c hnil;simp only [nz])|refine wA2 ?_)<;>(try refine NQ ?_))|refine wT3 ?_|with_reducible intro Q' hQ'|(refine GC ?_;refine ⟨fun hc=>?_,fun hc=>?_⟩)|simp only [la])
 refine cp_loopS [4,5,8,9,10,11,12,13,14,15,16,17,18] (fun a:Nat=>l.length - a) (fun a=>a≤l.length∧fstL 0 l=fstL a (l.drop a)) (fun a=>[(8,I a)]) (fun _=>[]) 0 ⟨Nat.zero_le _,rfl⟩ (by exact Gh.W) ?_;rintro a ⟨ha,he⟩;simp only [setT,deT,setB,List.set_cons_succ,List.set_cons_zero]
 by_cases hal:a < l.length
 ·have q1:decide ((a:Int) < (l.length:Int))=true:=by simp;omega
  have q2:IntKind.i64.wrap ((a:Int) + 1)=((a + 1:Nat):Int):=wrap_i64 (by omega) (by omega);have hr:(l.map eT)[a]? = some [S l[a]]:=by rw [List.getElem?_map,List.getElem?_eq_getElem hal];rfl
  have h1:=long_ac l[a] (hb _ (List.getElem_mem hal));rw [List.drop_eq_getElem_cons hal,fstL] at he;generalize l[a]=x at *
  cases hx:longS x with
  | true=>
   rw [hx] at h1;rw [if_pos hx] at he;rw [show fstL 0 l=a from he]
   repeat' (first|((first|refine wA1 ?_|(refine GA ?_;refine ⟨fun hg=>?_,fun hg=>?_⟩)|(refine GV ?_;intro c hnil;simp only [nz])|refine wA2 ?_)<;>(try simp only [q1,q2,nq,Nat.reduceBEq,Nat.reduceAdd,Nat.reduceSub]))|refine wT3 ?_|with_reducible intro Q' hQ'|(refine GC ?_;refine ⟨fun hc=>?_,fun hc=>?_⟩)|simp only [la])
   (exact RetQ.A [] (by exact ⟨rfl,rfl⟩))
  | false=>
   rw [hx] at h1;rw [if_neg (by rw [hx];simp)] at he
   repeat' (first|((first|refine wA1 ?_|(refine GA ?_;refine ⟨fun hg=>?_,fun hg=>?_⟩)|(refine GV ?_;intro c hnil;simp only [nz])|refine wA2 ?_)<;>(try simp only [q1,q2,nq,Nat.reduceBEq,Nat.reduceAdd,Nat.reduceSub]))|refine wT3 ?_|with_reducible intro Q' hQ'|(refine GC ?_;refine ⟨fun hc=>?_,fun hc=>?_⟩)|simp only [la])
   exact ⟨a + 1,by omega,⟨by omega,he⟩,by exact Gh.W⟩
 ·obtain rfl:a=l.length:=by omega
  have q1:decide ((l.length:Int) < (l.length:Int))=false:=by simp
  rw [List.drop_length] at he;rw [show fstL 0 l = -1 from he]
  repeat' (first|((first|refine wA1 ?_|(refine GA ?_;refine ⟨fun hg=>?_,fun hg=>?_⟩)|(refine GV ?_;intro c hnil;simp only [nz])|refine wA2 ?_)<;>(try simp only [q1,nq,Nat.reduceBEq,Nat.reduceAdd,Nat.reduceSub]))|refine wT3 ?_|with_reducible intro Q' hQ'|(refine GC ?_;refine ⟨fun hc=>?_,fun hc=>?_⟩)|simp only [la])
  (exact RetQ.A [] (by exact ⟨rfl,rfl⟩))
theorem tcont_ac (l:List (List UInt8)) (hl:l.length≤1000000) (hb:∀ x∈l,x.length≤100000000) :
 AC Tryz.prog 190 [ts none l,.fn 189 []] [] (fun v bs'=>v=B (l.any longS)∧bs'=[]):=by
 have h1:=tidx_ac l hl hb;have q:=fstL_any l 0;refine AC.N Tryz.func190 Tryz.ntmps190 ?_;intro X hρ hmks;refine NX ?_;have sm:=q;refine W1 ?_;(exact RetQ.A [] (by exact ⟨rfl,rfl⟩))
structure Rep.small (r:Rep):Prop where
 k:r.keys.length≤1000000
 v:r.val.length≤100000000
 e:∀ x∈r.keys,x.length≤100000000
theorem mayRp_ac (r:Rep) (h:r.small):AC Tryz.prog 128 [.ag (eRp r)] [] (fun v bs'=>v=B (mayRp r)∧bs'=[]):=by
 have h1:=long_ac r.val h.v;have h2:=tcont_ac r.keys h.k h.e;unfold mayRp;generalize longS r.val=x at *;generalize r.keys.any longS=y at *
 by_cases hk:r.keys.length≤16
 ·have q1:decide ((r.keys.length:Int)≤16)=true:=by simp;omega
  rw [decide_eq_true hk]
  cases x with
  | true=>
   refine AC.N Tryz.func128 Tryz.ntmps128 ?_;intro X hρ hmks;refine NX ?_
   repeat' (first|((first|refine wA1 ?_|(refine GA ?_;refine ⟨fun hg=>?_,fun hg=>?_⟩)|(refine GV ?_;intro c hnil;simp only [nz])|refine wA2 ?_)<;>(try simp only [q1,nq,Nat.reduceBEq,Nat.reduceAdd,Nat.reduceSub]))|refine wT3 ?_|with_reducible intro Q' hQ'|(refine GC ?_;refine ⟨fun hc=>?_,fun hc=>?_⟩)|simp only [la])
   (exact RetQ.A [] (by exact ⟨rfl,rfl⟩))
  | false=>
   refine AC.N Tryz.func128 Tryz.ntmps128 ?_;intro X hρ hmks;refine NX ?_
   repeat' (first|((first|refine wA1 ?_|(refine GA ?_;refine ⟨fun hg=>?_,fun hg=>?_⟩)|(refine GV ?_;intro c hnil;simp only [nz])|refine wA2 ?_)<;>(try simp only [q1,nq,Nat.reduceBEq,Nat.reduceAdd,Nat.reduceSub]))|refine wT3 ?_|with_reducible intro Q' hQ'|(refine GC ?_;refine ⟨fun hc=>?_,fun hc=>?_⟩)|simp only [la])
   (exact RetQ.A [] (by exact ⟨rfl,rfl⟩))
 ·have q1:decide ((r.keys.length:Int)≤16)=false:=by simp;omega
  rw [decide_eq_false hk];refine AC.N Tryz.func128 Tryz.ntmps128 ?_;intro X hρ hmks;refine NX ?_
  repeat' (first|((first|refine wA1 ?_|(refine GA ?_;refine ⟨fun hg=>?_,fun hg=>?_⟩)|(refine GV ?_;intro c hnil;simp only [nz])|refine wA2 ?_)<;>(try simp only [q1,nq,Nat.reduceBEq,Nat.reduceAdd,Nat.reduceSub]))|refine wT3 ?_|with_reducible intro Q' hQ'|(refine GC ?_;refine ⟨fun hc=>?_,fun hc=>?_⟩)|simp only [la])
  (exact RetQ.A [] (by exact ⟨rfl,rfl⟩))
theorem rtext_ac (st:Rw) (hst:st.2.length≤100000000):AC Tryz.prog 219 [.bp 0 0 0] [rB st] (fun v bs'=>v=S (bytesR st).1∧bs'=[rB (bytesR st).2]):=by
 have h1:=rbytes_ac st hst;refine AC.N Tryz.func219 Tryz.ntmps219 ?_;intro X hρ hmks;refine NX ?_;refine CP.SL ?_
 repeat' (first|((first|refine wA1 ?_|(refine GA ?_;refine ⟨fun hg=>?_,fun hg=>?_⟩)|(refine GV ?_;intro c hnil;simp only [nz])|refine wA17 ?_|refine wA2 ?_)<;>(try refine NQ ?_))|refine wT3 ?_|with_reducible intro Q' hQ'|(refine GC ?_;refine ⟨fun hc=>?_,fun hc=>?_⟩)|simp only [la])
 (exact RetQ.A [(0,0)] (by exact ⟨rfl,rfl⟩))
def textsR:Nat→Rw→List (List UInt8)×Rw
 | 0,st=>([],st)
 | n + 1,st=>((bytesR st).1 :: (textsR n (bytesR st).2).1,(textsR n (bytesR st).2).2)
theorem textsR_snoc:∀ (n:Nat) (st:Rw),(textsR (n + 1) st).1=(textsR n st).1 ++ [(bytesR (textsR n st).2).1]∧(textsR (n + 1) st).2=(bytesR (textsR n st).2).2
 | 0,st=>⟨rfl,rfl⟩
 | n + 1,st=>by
  have h:=textsR_snoc n (bytesR st).2;exact ⟨by show (bytesR st).1 :: (textsR (n + 1) (bytesR st).2).1=_;rw [h.1];rfl,h.2⟩
theorem textsR_cnt:∀ (n:Nat) (st:Rw),(textsR n st).1.length=n
 | 0,_=>rfl
 | n + 1,st=>by show (_ :: _).length=_;rw [List.length_cons,textsR_cnt n]
theorem textsR_le {k:Nat}:∀ {n:Nat} {st:Rw},st.2.length≤k→(textsR n st).2.2.length≤k
 | 0,_,h=>h
 | n + 1,st,h=>textsR_le (n:=n) (bytes_le h)
theorem takeS_bnd {z:List UInt8} {f:List UInt8→List UInt8×Bool} {n:Int} {st:Rw} {k:Nat} (hz:z.length≤k) (hf:∀ b:List UInt8,b.length≤k→(f b).1.length≤k) (h:st.2.length≤k):(takeS z f n st).1.length≤k:=by
 unfold takeS;split
 ·exact hz
 ·split
  ·exact hz
  ·split
   ·exact hf _ (by rw [List.length_take];omega)
   ·exact hz
theorem bytesR_bnd {st:Rw} {k:Nat} (h:st.2.length≤k):(bytesR st).1.length≤k:=takeS_bnd (Nat.zero_le _) (fun b hb=>hb) (takeS_len h)
theorem textsR_bnd {k:Nat}:∀ {n:Nat} {st:Rw},st.2.length≤k→∀ x∈(textsR n st).1,x.length≤k
 | 0,_,_,x,hx=>by cases hx
 | n + 1,st,h,x,hx=>by
  rcases List.mem_cons.1 hx with rfl|hx
  ·exact bytesR_bnd h
  ·exact textsR_bnd (n:=n) (bytes_le h) x hx
def rpK (b:List UInt8):Rw:=(textsR (countR 16 (bytesR (intR (newR b)).2).2).1.toNat (countR 16 (bytesR (intR (newR b)).2).2).2).2
def readRp (b:List UInt8):Rep:=
 ⟨(intR (newR b)).1,(bytesR (intR (newR b)).2).1,(textsR (countR 16 (bytesR (intR (newR b)).2).2).1.toNat (countR 16 (bytesR (intR (newR b)).2).2).2).1,(intR (rpK b)).1,
  ⟨(intR (r1 (rpK b))).1,(intR (r2 (rpK b))).1,(byteR (r3 (rpK b))).1,(intR (byteR (r3 (rpK b))).2).1,(intR (r1 (byteR (r3 (rpK b))).2)).1,(intR (r2 (byteR (r3 (rpK b))).2)).1,(intR (r3 (byteR (r3 (rpK b))).2)).1,(tagR (r4 (byteR (r3 (rpK b))).2)).1,(tagR (tagR (r4 (byteR (r3 (rpK b))).2)).2).1⟩⟩
def endRp (b:List UInt8):Rw:=(tagR (tagR (r4 (byteR (r3 (rpK b))).2)).2).2
def parseRp (b:List UInt8):Rep×Int:=if endR (endRp b)=0∧mayRp (readRp b)=true then (readRp b,0) else (rp0,150)
theorem ro_T (l:List (List UInt8)):roE (l.map eT)=l.map eT:=by rw [roE_map];rfl
abbrev rpC (a1 a2 k:AV):List AV:=[a1,a2,k,I 0,I 0,I 0,U 0,I 0,I 0,I 0,I 0,U 0,U 0,U 0,U 0,U 0,U 0,U 0,U 0,U 0,U 0,U 0,U 0,U 0,U 0,U 0,U 0,U 0,U 0,U 0,U 0,U 0,U 0,U 0,U 0,U 0,U 0,U 0,U 0,U 0,U 0,U 0,U 0,U 0,U 0,U 0,U 0,U 0,U 0,U 0,U 0,U 0,U 0,U 0,U 0,U 0,U 0,U 0,U 0,U 0,U 0,U 0,U 0,U 0,U 0,U 0,U 0,U 0,U 0,U 0,U 0,U 0,U 0,U 0,U 0]
theorem parseRpQ (b:List UInt8) (s0 s1 s2 s3 t1 t2 t3 t4 t5 t6 t7 t8 t9 t10:Rw) (a1:Int) (a2:List UInt8) (N:Nat) (hN:N≤16) (n1 n2 n3:Int) (op:UInt8) (n4 n5 n6 n7:Int) (g1 g2:List UInt8) (ee:Int) (mm:Bool) (R:Rep×Int) (hs3:s3.2.length≤100000000)
 (h0:AC Tryz.prog 45 [bs none b] [] (fun v bs'=>v=.bp 0 0 0∧bs'=[rB s0]))
 (i1:AC Tryz.prog 46 [.bp 0 0 0] [rB s0] (fun v bs'=>v=I a1∧bs'=[rB s1]))
 (i2:AC Tryz.prog 219 [.bp 0 0 0] [rB s1] (fun v bs'=>v=S a2∧bs'=[rB s2]))
 (i3:AC Tryz.prog 201 [.bp 0 0 0,I 16] [rB s2] (fun v bs'=>v=I N∧bs'=[rB s3]))
 (j1:AC Tryz.prog 46 [.bp 0 0 0] [rB (textsR N s3).2] (fun v bs'=>v=I n1∧bs'=[rB t1]))
 (j2:AC Tryz.prog 46 [.bp 0 0 0] [rB t1] (fun v bs'=>v=I n2∧bs'=[rB t2]))
 (j3:AC Tryz.prog 46 [.bp 0 0 0] [rB t2] (fun v bs'=>v=I n3∧bs'=[rB t3]))
 (j4:AC Tryz.prog 51 [.bp 0 0 0] [rB t3] (fun v bs'=>v=U op∧bs'=[rB t4]))
 (j5:AC Tryz.prog 46 [.bp 0 0 0] [rB t4] (fun v bs'=>v=I n4∧bs'=[rB t5]))
 (j6:AC Tryz.prog 46 [.bp 0 0 0] [rB t5] (fun v bs'=>v=I n5∧bs'=[rB t6]))
 (j7:AC Tryz.prog 46 [.bp 0 0 0] [rB t6] (fun v bs'=>v=I n6∧bs'=[rB t7]))
 (j8:AC Tryz.prog 46 [.bp 0 0 0] [rB t7] (fun v bs'=>v=I n7∧bs'=[rB t8]))
 (k1:AC Tryz.prog 48 [.bp 0 0 0] [rB t8] (fun v bs'=>v=tg g1∧bs'=[rB t9]))
 (k2:AC Tryz.prog 48 [.bp 0 0 0] [rB t9] (fun v bs'=>v=tg g2∧bs'=[rB t10]))
 (k3:AC Tryz.prog 49 [.bp 0 0 0] [rB t10] (fun v bs'=>v=I ee∧bs'=[rB t10]))
 (k4:AC Tryz.prog 128 [.ag (eRp ⟨a1,a2,(textsR N s3).1,n1,n2,n3,op,n4,n5,n6,n7,g1,g2⟩)] [] (fun v bs'=>v=B mm∧bs'=[]))
 (hR:R=if ee=0∧mm=true then (⟨a1,a2,(textsR N s3).1,n1,n2,n3,op,n4,n5,n6,n7,g1,g2⟩,0) else (rp0,150)) :
 AC Tryz.prog 178 [bs none b] [] (fun v bs'=>v=.tu [.ag (eRp R.1),I R.2]∧bs'=[]):=by
 refine AC.N Tryz.func178 Tryz.ntmps178 ?_;intro X hρ hmks;refine NX ?_;refine CP.SL ?_;refine CP.SL ?_;refine CP.SL ?_
 repeat' (first|((first|refine wA1 ?_|(refine GA ?_;refine ⟨fun hg=>?_,fun hg=>?_⟩)|(refine GV ?_;intro c hnil;simp only [nz])|refine aC4 i1 ?_|refine wA2 ?_|refine wD4 ?_|refine dC3 i1 ?_)<;>(try refine NQ ?_))|refine wT2 ?_|with_reducible intro Q' hQ'|(refine GC ?_;refine ⟨fun hc=>?_,fun hc=>?_⟩)|simp only [la])
 refine CP.gh (gh_nilc (j:=2) (u:=1) (off:=2) (e:=tSg) (k:=1) rfl rfl) ?_;refine NX ?_;refine CP.SL ?_;refine CP.SL ?_;clear h0 i1 i2 i3;refine cp_loopS [15,16,17,18,19,20,21,22,23,24] (fun a:Nat=>N - a) (fun a=>a≤N) (fun a=>[(15,I a)]) (fun a=>[(1,⟨1,rB (textsR a s3).2⟩),(2,⟨1,.c tRp (rpC (I a1) (S a2) (.hd 3 (a + 1)))⟩),(3,⟨a + 1,.r tSg 1 ((textsR a s3).1.map eT)⟩),(4,⟨a,.x⟩)]) 0 (Nat.zero_le _) (by exact Gh.W) ?_;intro a ha;simp only [setT,deT,setB,List.set_cons_succ,List.set_cons_zero]
 by_cases hal:a < N
 ·have q1:decide ((a:Int) < (N:Int))=true:=by simp;omega
  have q2:IntKind.i64.wrap ((a:Int) + 1)=((a + 1:Nat):Int):=wrap_i64 (by omega) (by omega);have h1:=rtext_ac (textsR a s3).2 (textsR_le hs3);obtain ⟨e1,e2⟩:=textsR_snoc a s3;have hl:((textsR a s3).1.map eT).length + 1≤1000000000:=by rw [List.length_map,textsR_cnt];omega
  have e3:(textsR (a + 1) s3).1.map eT=(textsR a s3).1.map eT ++ [[S (bytesR (textsR a s3).2).1]]:=by rw [e1,List.map_append];rfl
  rw [←e2] at h1;generalize (textsR a s3).1.map eT=L at *;generalize (bytesR (textsR a s3).2).1=x at *
  repeat' (first|((first|refine wA1 ?_|(refine GA ?_;refine ⟨fun hg=>?_,fun hg=>?_⟩)|(refine GV ?_;intro c hnil;simp only [nz])|refine wA2 ?_|refine wD3 ?_)<;>(try simp only [q1,q2,nq,Nat.reduceBEq,Nat.reduceAdd,Nat.reduceSub]))|refine wT2 ?_|with_reducible intro Q' hQ'|(refine GC ?_;refine ⟨fun hc=>?_,fun hc=>?_⟩)|simp only [la])
  refine ⟨a + 1,by omega,by omega,?_⟩;rw [e3];exact Gh.W
 ·obtain rfl:a=N:=by omega
  have q1:decide ((a:Int) < (a:Int))=false:=by simp
  refine CP.gh (gh_fzS (b:=3) rfl) ?_;simp only [ro_T,nq,Nat.reduceBEq,Nat.reduceAdd,Nat.reduceSub];generalize (textsR a s3).1=K at *;generalize (textsR a s3).2=s4 at *
  by_cases hg:ee=0∧mm=true
  ·rw [if_pos hg] at hR;subst hR;obtain ⟨rfl,rfl⟩:=hg
   repeat' (first|((first|refine wA1 ?_|(refine GA ?_;refine ⟨fun hg=>?_,fun hg=>?_⟩)|(refine GV ?_;intro c hnil;simp only [nz])|refine aC4 j1 ?_|refine aC4 j2 ?_|refine aC4 j3 ?_|refine aC4 j4 ?_|refine aC4 j5 ?_|refine aC4 j6 ?_|refine aC4 j7 ?_|refine aC4 j8 ?_|refine aC4 k1 ?_|refine aC4 k2 ?_|refine aC4 k3 ?_|refine aC1 k4 ?_|refine wA2 ?_|refine wD4 ?_|refine dC3 j1 ?_|refine dC3 j2 ?_|refine dC3 j3 ?_|refine dC3 j4 ?_|refine dC3 j5 ?_|refine dC3 j6 ?_|refine dC3 j7 ?_|refine dC3 j8 ?_|refine dC3 k1 ?_|refine dC3 k2 ?_|refine dC3 k3 ?_|refine dC1 k4 ?_)<;>(try simp only [q1,nq,Nat.reduceBEq,Nat.reduceAdd,Nat.reduceSub]))|refine wT2 ?_|with_reducible intro Q' hQ'|(refine GC ?_;refine ⟨fun hc=>?_,fun hc=>?_⟩)|simp only [la])
   all_goals first
    | (exact RetQ.A [] (by exact ⟨rfl,rfl⟩))
    | (exfalso;(repeat (rename AC _ _ _ _ _=>hzz;clear hzz));simp at *;done)
  ·rw [if_neg hg] at hR;subst hR
   by_cases he:ee=0
   ·subst he;have q3:((0:Int) != 0)=false:=rfl;have hmm:mm=false:=by cases mm;rfl;exact absurd ⟨rfl,rfl⟩ hg
    subst hmm
    repeat' (first|((first|refine wA1 ?_|(refine GA ?_;refine ⟨fun hg=>?_,fun hg=>?_⟩)|(refine GV ?_;intro c hnil;simp only [nz])|refine aC4 j1 ?_|refine aC4 j2 ?_|refine aC4 j3 ?_|refine aC4 j4 ?_|refine aC4 j5 ?_|refine aC4 j6 ?_|refine aC4 j7 ?_|refine aC4 j8 ?_|refine aC4 k1 ?_|refine aC4 k2 ?_|refine aC4 k3 ?_|refine aC1 k4 ?_|refine wA2 ?_|refine wD4 ?_|refine dC3 j1 ?_|refine dC3 j2 ?_|refine dC3 j3 ?_|refine dC3 j4 ?_|refine dC3 j5 ?_|refine dC3 j6 ?_|refine dC3 j7 ?_|refine dC3 j8 ?_|refine dC3 k1 ?_|refine dC3 k2 ?_|refine dC3 k3 ?_|refine dC1 k4 ?_)<;>(try simp only [q1,q3,nq,Nat.reduceBEq,Nat.reduceAdd,Nat.reduceSub]))|refine wT2 ?_|with_reducible intro Q' hQ'|(refine GC ?_;refine ⟨fun hc=>?_,fun hc=>?_⟩)|simp only [la])
    (exact RetQ.A [] (by exact ⟨rfl,rfl⟩))
   ·have q3:(ee != 0)=true:=by simpa using he
    repeat' (first|((first|refine wA1 ?_|(refine GA ?_;refine ⟨fun hg=>?_,fun hg=>?_⟩)|(refine GV ?_;intro c hnil;simp only [nz])|refine aC4 j1 ?_|refine aC4 j2 ?_|refine aC4 j3 ?_|refine aC4 j4 ?_|refine aC4 j5 ?_|refine aC4 j6 ?_|refine aC4 j7 ?_|refine aC4 j8 ?_|refine aC4 k1 ?_|refine aC4 k2 ?_|refine aC4 k3 ?_|refine aC1 k4 ?_|refine wA2 ?_|refine wD4 ?_|refine dC3 j1 ?_|refine dC3 j2 ?_|refine dC3 j3 ?_|refine dC3 j4 ?_|refine dC3 j5 ?_|refine dC3 j6 ?_|refine dC3 j7 ?_|refine dC3 j8 ?_|refine dC3 k1 ?_|refine dC3 k2 ?_|refine dC3 k3 ?_|refine dC1 k4 ?_)<;>(try simp only [q1,q3,nq,Nat.reduceBEq,Nat.reduceAdd,Nat.reduceSub]))|refine wT2 ?_|with_reducible intro Q' hQ'|(refine GC ?_;refine ⟨fun hc=>?_,fun hc=>?_⟩)|simp only [la])
    (exact RetQ.A [] (by exact ⟨rfl,rfl⟩))
theorem parseRp_ac (b:List UInt8) (hb:b.length≤100000000):AC Tryz.prog 178 [bs none b] [] (fun v bs'=>v=.tu [.ag (eRp (parseRp b).1),I (parseRp b).2]∧bs'=[]):=by
 have l0:=newR_le' hb;have l1:(intR (newR b)).2.2.length≤100000000:=int_le l0;have l2:(bytesR (intR (newR b)).2).2.2.length≤100000000:=bytes_le l1;have l3:(countR 16 (bytesR (intR (newR b)).2).2).2.2.length≤100000000:=countR_len l2;have hc:=countR_le (m:=16) (st:=(bytesR (intR (newR b)).2).2) (by omega);have l4:(rpK b).2.length≤100000000:=textsR_le l3;have m1:(r1 (rpK b)).2.length≤100000000:=int_le l4;have m2:(r2 (rpK b)).2.length≤100000000:=int_le m1;have m3:(r3 (rpK b)).2.length≤100000000:=int_le m2;have m4:(byteR (r3 (rpK b))).2.2.length≤100000000:=byteR_len m3;have m5:(r1 (byteR (r3 (rpK b))).2).2.length≤100000000:=int_le m4;have m6:(r2 (byteR (r3 (rpK b))).2).2.length≤100000000:=int_le m5;have m7:(r3 (byteR (r3 (rpK b))).2).2.length≤100000000:=int_le m6;have m8:(r4 (byteR (r3 (rpK b))).2).2.length≤100000000:=int_le m7;have m9:(tagR (r4 (byteR (r3 (rpK b))).2)).2.2.length≤100000000:=tag_le m8;have i3:=rcount_ac 16 (bytesR (intR (newR b)).2).2 l2;rw [show (countR 16 (bytesR (intR (newR b)).2).2).1=(((countR 16 (bytesR (intR (newR b)).2).2).1.toNat:Nat):Int) by omega] at i3;have hsm:(readRp b).small:=⟨by show (textsR _ _).1.length≤_;rw [textsR_cnt];omega,bytesR_bnd l1,textsR_bnd l3⟩;exact parseRpQ b _ _ _ _ _ _ _ _ _ _ _ _ _ _ _ _ _ (by omega) _ _ _ _ _ _ _ _ _ _ _ _ _ l3 (rnew_ac b hb) (rint_ac _ l0) (rtext_ac _ l1) i3 (rint_ac _ l4) (rint_ac _ m1) (rint_ac _ m2) (rbyte_ac _ m3) (rint_ac _ m4) (rint_ac _ m5) (rint_ac _ m6) (rint_ac _ m7) (rtag_ac _ m8) (rtag_ac _ m9) (rend_ac _) (mayRp_ac _ hsm) rfl
abbrev tAn:TypeId:=60
structure An where
 client:Int
 id:Int
 r:Rep
abbrev eAn (a:An):List AV:=[I a.client,I a.id,I a.r.err,S a.r.val,ts none a.r.keys,I a.r.n,I a.r.lnk.n,I a.r.lnk.st,U a.r.lnk.op,I a.r.lnk.ten,I a.r.lnk.a,I a.r.lnk.b,I a.r.lnk.c,U (a.r.lnk.ahead.getD 0 0),U (a.r.lnk.ahead.getD 1 0),U (a.r.lnk.ahead.getD 2 0),U (a.r.lnk.ahead.getD 3 0),U (a.r.lnk.ahead.getD 4 0),U (a.r.lnk.ahead.getD 5 0),U (a.r.lnk.ahead.getD 6 0),U (a.r.lnk.ahead.getD 7 0),U (a.r.lnk.ahead.getD 8 0),U (a.r.lnk.ahead.getD 9 0),U (a.r.lnk.ahead.getD 10 0),U (a.r.lnk.ahead.getD 11 0),U (a.r.lnk.ahead.getD 12 0),U (a.r.lnk.ahead.getD 13 0),U (a.r.lnk.ahead.getD 14 0),U (a.r.lnk.ahead.getD 15 0),U (a.r.lnk.ahead.getD 16 0),U (a.r.lnk.ahead.getD 17 0),U (a.r.lnk.ahead.getD 18 0),U (a.r.lnk.ahead.getD 19 0),U (a.r.lnk.ahead.getD 20 0),U (a.r.lnk.ahead.getD 21 0),U (a.r.lnk.ahead.getD 22 0),U (a.r.lnk.ahead.getD 23 0),U (a.r.lnk.ahead.getD 24 0),U (a.r.lnk.ahead.getD 25 0),U (a.r.lnk.ahead.getD 26 0),U (a.r.lnk.ahead.getD 27 0),U (a.r.lnk.ahead.getD 28 0),U (a.r.lnk.ahead.getD 29 0),U (a.r.lnk.ahead.getD 30 0),U (a.r.lnk.ahead.getD 31 0),U (a.r.lnk.self.getD 0 0),U (a.r.lnk.self.getD 1 0),U (a.r.lnk.self.getD 2 0),U (a.r.lnk.self.getD 3 0),U (a.r.lnk.self.getD 4 0),U (a.r.lnk.self.getD 5 0),U (a.r.lnk.self.getD 6 0),U (a.r.lnk.self.getD 7 0),U (a.r.lnk.self.getD 8 0),U (a.r.lnk.self.getD 9 0),U (a.r.lnk.self.getD 10 0),U (a.r.lnk.self.getD 11 0),U (a.r.lnk.self.getD 12 0),U (a.r.lnk.self.getD 13 0),U (a.r.lnk.self.getD 14 0),U (a.r.lnk.self.getD 15 0),U (a.r.lnk.self.getD 16 0),U (a.r.lnk.self.getD 17 0),U (a.r.lnk.self.getD 18 0),U (a.r.lnk.self.getD 19 0),U (a.r.lnk.self.getD 20 0),U (a.r.lnk.self.getD 21 0),U (a.r.lnk.self.getD 22 0),U (a.r.lnk.self.getD 23 0),U (a.r.lnk.self.getD 24 0),U (a.r.lnk.self.getD 25 0),U (a.r.lnk.self.getD 26 0),U (a.r.lnk.self.getD 27 0),U (a.r.lnk.self.getD 28 0),U (a.r.lnk.self.getD 29 0),U (a.r.lnk.self.getD 30 0),U (a.r.lnk.self.getD 31 0)]
abbrev anO (l:List An):AV:=.sl (some tAn) 77 (l.map eAn)
abbrev zfn:AV:=.sc .nilFunc
theorem cm1_ac (f:Int):AC Tryz.prog 109 [I f] [] (fun v bs'=>v=B (f == 9)∧bs'=[]):=by
 refine AC.N Tryz.func109 Tryz.ntmps109 ?_;intro X hρ hmks;refine NX ?_;refine W1 ?_;(exact RetQ.A [] (by exact ⟨rfl,rfl⟩))
theorem cm2_ac (f:Int):AC Tryz.prog 111 [I f] [] (fun v bs'=>v=B (decide (f < 5))∧bs'=[]):=by
 refine AC.N Tryz.func111 Tryz.ntmps111 ?_;intro X hρ hmks;refine NX ?_;refine W1 ?_;(exact RetQ.A [] (by exact ⟨rfl,rfl⟩))
abbrev cmC:List AV:=[zfn,zfn,zfn,zfn,zfn,zfn,zfn,zfn,.fn 109 [],.fn 110 [zfn,.bp 0 0 0],zfn,zfn,.fn 111 [],.fn 112 [zfn,.bp 0 0 0]]
theorem comings_ac (x:Gw):AC Tryz.prog 62 [.bp 0 0 0] [gB x] (fun v bs'=>v=.ag cmC∧bs'=[gB x]):=by
 refine AC.N Tryz.func62 Tryz.ntmps62 ?_;intro X hρ hmks;refine NX ?_;refine CP.SL ?_;refine CP.SL ?_
 repeat' (first|((first|refine wA1 ?_|(refine GA ?_;refine ⟨fun hg=>?_,fun hg=>?_⟩)|(refine GV ?_;intro c hnil;simp only [nz])|refine wA2 ?_)<;>(try refine NQ ?_))|refine wT3 ?_|with_reducible intro Q' hQ'|(refine GC ?_;refine ⟨fun hc=>?_,fun hc=>?_⟩)|simp only [la])
 exact RetQ.A [(0,0)] (by exact ⟨rfl,rfl⟩) (hc:=by exact ClsR.one ClsV.id)
/-- a configuration that comes -/
def Gw.onc (x:Gw) (p:Pkt) (m:Msg):(List (List UInt8)×Int)×Gw:=
 if m.cfg.epoch≠p.epoch∨mayC m.cfg=false then (([],200),x) else if m.cfg.epoch≤x.cfg.epoch then (([],240),x)
 else ((({ x with cfg:=m.cfg }:Gw).tick.1,0),({ x with cfg:=m.cfg }:Gw).tick.2)
theorem Gw.ok.cfg {x:Gw} {n:Nat} (h:x.ok n) {c:Config} (hc:mayC c=true):({ x with cfg:=c }:Gw).ok n:=⟨⟨hc,h.g.r,h.g.w,h.g.b⟩,h.f,h.nd,h.l,h.w,h.a,h.s⟩
theorem onc_ac (x:Gw) (n:Nat) (p:Pkt) (m:Msg) (h:x.ok n) (hn:n≤1000000) (hm:m.cfg.members.length≤100000000):AC Tryz.prog 110 [.bp 0 0 0,.ag (eP p),.ag (eG m)] [gB x] (fun v bs'=>v=.tu [anO [],bss none (x.onc p m).1.1,I (x.onc p m).1.2]∧bs'=[gB (x.onc p m).2]):=by
 have h1:=may_ac m.cfg hm
 by_cases h2:m.cfg.epoch=p.epoch
 ·have q1:(m.cfg.epoch != p.epoch)=false:=by simpa using h2
  cases h3:mayC m.cfg with
  | false=>
   have e:x.onc p m=(([],200),x):=if_pos (.inr h3);rw [e];rw [h3] at h1;refine AC.N Tryz.func110 Tryz.ntmps110 ?_;intro X hρ hmks;refine NX ?_;iterate 4 refine CP.SL ?_
   repeat' (first|((first|refine wA1 ?_|(refine GA ?_;refine ⟨fun hg=>?_,fun hg=>?_⟩)|(refine GV ?_;intro c hnil;simp only [nz])|refine wA2 ?_|refine wD3 ?_)<;>(try simp only [q1,nq,Nat.reduceBEq,Nat.reduceAdd,Nat.reduceSub]))|refine wT2 ?_|with_reducible intro Q' hQ'|(refine GC ?_;refine ⟨fun hc=>?_,fun hc=>?_⟩)|simp only [la])
   (exact RetQ.A [(0,0)] (by exact ⟨rfl,rfl⟩))
  | true=>
   rw [h3] at h1
   by_cases h4:m.cfg.epoch≤x.cfg.epoch
   ·have e:x.onc p m=(([],240),x):=by unfold Gw.onc;rw [if_neg (by rw [h3];simp [h2]),if_pos h4]
    rw [e];have q2:=decide_eq_true h4;refine AC.N Tryz.func110 Tryz.ntmps110 ?_;intro X hρ hmks;refine NX ?_;iterate 4 refine CP.SL ?_
    repeat' (first|((first|refine wA1 ?_|(refine GA ?_;refine ⟨fun hg=>?_,fun hg=>?_⟩)|(refine GV ?_;intro c hnil;simp only [nz])|refine wA2 ?_|refine wD3 ?_)<;>(try simp only [q1,q2,nq,Nat.reduceBEq,Nat.reduceAdd,Nat.reduceSub]))|refine wT2 ?_|with_reducible intro Q' hQ'|(refine GC ?_;refine ⟨fun hc=>?_,fun hc=>?_⟩)|simp only [la])
    (exact RetQ.A [(0,0)] (by exact ⟨rfl,rfl⟩))
   ·have e:x.onc p m=((({ x with cfg:=m.cfg }:Gw).tick.1,0),({ x with cfg:=m.cfg }:Gw).tick.2):=by unfold Gw.onc;rw [if_neg (by rw [h3];simp [h2]),if_neg h4]
    rw [e];have q2:=decide_eq_false h4;have h5:=gtick_ac { x with cfg:=m.cfg } n (h.cfg h3) hn;generalize ({ x with cfg:=m.cfg }:Gw).tick=R at *;obtain ⟨out,y⟩:=R;dsimp only at *;refine AC.N Tryz.func110 Tryz.ntmps110 ?_;intro X hρ hmks;refine NX ?_;iterate 4 refine CP.SL ?_
    repeat' (first|((first|refine wA1 ?_|(refine GA ?_;refine ⟨fun hg=>?_,fun hg=>?_⟩)|(refine GV ?_;intro c hnil;simp only [nz])|refine aC4 h5 ?_|refine wA2 ?_|refine wD4 ?_|refine dC3 h5 ?_)<;>(try simp only [q1,q2,nq,Nat.reduceBEq,Nat.reduceAdd,Nat.reduceSub]))|refine wT2 ?_|with_reducible intro Q' hQ'|(refine GC ?_;refine ⟨fun hc=>?_,fun hc=>?_⟩)|simp only [la])
    (exact RetQ.A [(0,0)] (by exact ⟨rfl,rfl⟩))
 ·have q1:(m.cfg.epoch != p.epoch)=true:=by simpa using h2
  have e:x.onc p m=(([],200),x):=if_pos (.inl h2);rw [e];refine AC.N Tryz.func110 Tryz.ntmps110 ?_;intro X hρ hmks;refine NX ?_;iterate 4 refine CP.SL ?_
  repeat' (first|((first|refine wA1 ?_|(refine GA ?_;refine ⟨fun hg=>?_,fun hg=>?_⟩)|(refine GV ?_;intro c hnil;simp only [nz])|refine wA2 ?_|refine wD3 ?_)<;>(try simp only [q1,nq,Nat.reduceBEq,Nat.reduceAdd,Nat.reduceSub]))|refine wT2 ?_|with_reducible intro Q' hQ'|(refine GC ?_;refine ⟨fun hc=>?_,fun hc=>?_⟩)|simp only [la])
  (exact RetQ.A [(0,0)] (by exact ⟨rfl,rfl⟩))
/-- a reply that comes -/
def Gw.onr (x:Gw) (m:Msg):(List An×Int)×Gw:=
 if (parseRp m.body).2≠0 then (([],200),x) else if (x.waits m.client).2=false∨(x.waits m.client).1≠m.id then (([],0),x)
 else (([⟨m.client,m.id,(parseRp m.body).1⟩],0),{ x with wt:=wTake x.wt m.client })
theorem mayP_of {p:Pkt} (h:mayP p=true):1≤p.epoch∧0≤p.boot∧1≤p.seqn:=by
 simp only [mayP,Bool.and_eq_true,decide_eq_true_eq] at h;exact ⟨h.1.1.2,h.1.2,h.2⟩
theorem take_two (w:Wn) (boot n:Int) (h0:0≤boot) (h1:1≤n):w.take boot n=(0,w.after boot n)∨w.take boot n=(180,w):=by
 unfold Wn.take;rw [if_neg (by omega)];split
 ·exact .inl rfl
 ·exact .inr rfl
theorem get_go (x:Ends) (b:List UInt8) (h:(parseP b).2=0) (h3:(parseP b).1.to=x.who) (h4:(parseP b).1.tag=tagS x.root (parseP b).1) :
 x.get b=(let p:=(parseP b).1
 let t:=(got (p.frm,p.epoch) x.wins Wn.new).take p.boot p.seqn
 let x':Ends:={ x with wins:=puts (p.frm,p.epoch) x.wins t.2 }
 if t.1≠0 then ((pk0,t.1),x') else ((p,0),x')):=by
 unfold Ends.get;rw [if_neg (by rw [h,h3];simp),if_neg (by rw [←h4];simp)]
theorem get_new (x:Ends) (b:List UInt8) (hb:b.length≤60000) (hr:x.root.length≤10000) (h:(parseP b).2=0) (h3:(parseP b).1.to=x.who) (h4:(parseP b).1.tag=tagS x.root (parseP b).1) (hm:mayP (parseP b).1=true)
 (ha:at_ ((parseP b).1.frm,(parseP b).1.epoch) x.wins=none):AC Tryz.prog 61 [.bp 0 0 0,bs none b] [xE x] (fun v bs'=>v=.tu [.ag (eP (x.get b).1.1),I (x.get b).1.2]∧bs'=[xE (x.get b).2]):=by
 rw [get_go x b h h3 h4];have h1:=lnone_ac x;have h2:=parseP_ac b (by omega);have hbl:=parseP_body b hb;have htl:=parseP_tag b;have hsq:=parseP_seqn b;rw [h] at h2;generalize (parseP b).1=p at *;have h5:=right_ac x.root p hr hbl htl;rw [decide_eq_true h4] at h5;obtain ⟨he,hbo,hs⟩:=mayP_of hm;have hg:got (p.frm,p.epoch) x.wins Wn.new=Wn.new:=by unfold got;rw [ha]
 have hp:∀ w1,puts (p.frm,p.epoch) x.wins w1=x.wins ++ [((p.frm,p.epoch),w1)]:=fun w1=>by unfold puts;rw [ha]
 dsimp only;rw [hg];have h6:=wnew18_ac;have h7:=take18_ac Wn.new p.boot p.seqn hsq (by unfold Wn.ok Wn.new;decide);have hk:=kinS x.wins
 have hk1:∀ k∈keyW x.wins ++ [.agg #[.int .i64 p.frm,.int .i64 p.epoch]],isKey Tryz.prog tSd [.i .i64,.i .i64] k=true:=kin _ fun k hk=>by
  rcases List.mem_append.1 hk with hk|hk
  ·obtain ⟨p,_,rfl⟩:=List.mem_map.1 hk;exact ⟨_,rfl⟩
  ·simp at hk;exact ⟨(p.frm,p.epoch),hk⟩
 have hf:=fnd_at_ (p.frm,p.epoch) x.wins
 have hf1:fnd (kS (p.frm,p.epoch)) (keyW x.wins ++ [.agg #[.int .i64 p.frm,.int .i64 p.epoch]])=some x.wins.length:=by
  rw [fnd_app (by rw [hf,ha])];have:=kEq_kS (p.frm,p.epoch) (p.frm,p.epoch);rw [decide_eq_true rfl] at this;simp [fnd,this]
 rw [ha] at hf
 have e1:∀ w1,xE { x with wins:=puts (p.frm,p.epoch) x.wins w1 }=.c tEn [B true,bs none x.root,I x.who,I x.boot,.mo (keyN x.sent) (rowN x.sent),.mo (keyW x.wins ++ [.agg #[.int .i64 p.frm,.int .i64 p.epoch]]) ((rowW x.wins ++ [[AV.de]]).set x.wins.length [.ob tWn (wC w1)])]:=fun w1=>by
  have e2:(rowW x.wins ++ [[AV.de]]).set x.wins.length [.ob tWn (wC w1)]=rowW x.wins ++ [[.ob tWn (wC w1)]]:=by
   rw [List.set_append_right _ _ (by simp)];simp
  rw [e2,hp];simp only [xE,enE,keyW,rowW,List.map_append,List.map_cons,List.map_nil]
 have d1:(p.to != x.who)=false:=by simpa using h3
 clear h4 hp;rcases take_two Wn.new p.boot p.seqn hbo hs with ht|ht
 ·rw [ht] at h7 ⊢;dsimp only at h7 ⊢;generalize Wn.new.after p.boot p.seqn=w1 at *;rw [if_neg (by decide)];dsimp only;rw [e1];clear e1;generalize Wn.new=w0 at *;refine AC.N Tryz.func61 Tryz.ntmps61 ?_;intro X hρ hmks;refine NX ?_;refine CP.gh gh_slot ?_;refine NX ?_
  refine CP.gh gh_slot ?_;refine NX ?_
  refine CP.gh gh_slot ?_;refine NX ?_
  refine CP.gh gh_slot ?_;refine NX ?_
  refine CP.gh gh_slot ?_;refine NX ?_
  repeat' (first|((first|refine wA1 ?_|(refine GA ?_;refine ⟨fun hg=>?_,fun hg=>?_⟩)|(refine GV ?_;intro c hnil;simp only [nz])|refine aC3 h6 ?_|refine aC4 h7 ?_|refine wA2 ?_|refine wD4 ?_|refine dC2 h6 ?_|refine dC3 h7 ?_)<;>(try simp only [d1,nq,Nat.reduceBEq,Nat.reduceAdd,Nat.reduceSub]))|refine wT2 ?_|with_reducible intro Q' hQ'|(refine GC ?_;refine ⟨fun hc=>?_,fun hc=>?_⟩)|simp only [la])
  (exact RetQ.A [(0,0)] (by exact ⟨rfl,rfl⟩))
 ·rw [ht] at h7 ⊢;dsimp only at h7 ⊢;rw [if_pos (by decide)];dsimp only;rw [e1,pk0_eP,eP_z];clear e1;generalize Wn.new=w0 at *;refine AC.N Tryz.func61 Tryz.ntmps61 ?_;intro X hρ hmks;refine NX ?_;refine CP.gh gh_slot ?_;refine NX ?_
  refine CP.gh gh_slot ?_;refine NX ?_
  refine CP.gh gh_slot ?_;refine NX ?_
  refine CP.gh gh_slot ?_;refine NX ?_
  refine CP.gh gh_slot ?_;refine NX ?_
  repeat' (first|((first|refine wA1 ?_|(refine GA ?_;refine ⟨fun hg=>?_,fun hg=>?_⟩)|(refine GV ?_;intro c hnil;simp only [nz])|refine aC3 h6 ?_|refine aC4 h7 ?_|refine wA2 ?_|refine wD4 ?_|refine dC2 h6 ?_|refine dC3 h7 ?_)<;>(try simp only [d1,nq,Nat.reduceBEq,Nat.reduceAdd,Nat.reduceSub]))|refine wT2 ?_|with_reducible intro Q' hQ'|(refine GC ?_;refine ⟨fun hc=>?_,fun hc=>?_⟩)|simp only [la])
  (exact RetQ.A [(0,0)] (by exact ⟨rfl,rfl⟩))
theorem take_ok {w:Wn} {b n:Int} (h:w.ok) (hn:n≤9223372036854775807):(w.take b n).2.ok:=by
 unfold Wn.take;split
 ·exact h
 rename_i h1
 split
 ·show (w.after b n).ok
  unfold Wn.after;split
  ·exact h
  split
  ·exact h
  have hb:(w.base b).ok:=by
   unfold Wn.base;split
   ·exact ⟨Int.le_refl _,(by decide:(0:Int)≤9223372036854775807)⟩
   ·exact h
  generalize w.base b=x at *
  have hf:(x.far n).ok:=by
   unfold Wn.far;split
   ·exact ⟨by dsimp only;omega,hn⟩
   ·exact hb
  unfold Wn.go;generalize x.far n=y at *
  show 0≤(y.ups _).top∧(y.ups _).top≤_
  rw [Wn.ups_top];unfold Wn.ok at hf;omega
 ·exact h
theorem puts_mem {α:Type} {s:Sd} {v:α} {q:Sd×α}:∀ {l:List (Sd×α)},q∈puts s l v→q∈l∨q=(s,v)
 | [],h=>by
  have:q∈[(s,v)]:=h;exact .inr (List.mem_singleton.1 this)
 | p :: l,h=>by
  rw [puts_cons] at h;split at h
  ·rcases List.mem_cons.1 h with h|h
   ·exact .inr h
   ·exact .inl (List.mem_cons_of_mem _ h)
  ·rcases List.mem_cons.1 h with h|h
   ·exact .inl (h ▸ List.mem_cons_self ..)
   ·rcases puts_mem h with h|h
    ·exact .inl (List.mem_cons_of_mem _ h)
    ·exact .inr h
theorem got_wok {l:List (Sd×Wn)} (h:∀ q∈l,q.2.ok) (s:Sd):(got s l Wn.new).ok:=by
 unfold got;split
 ·split
  ·rename_i hx;exact h _ (List.mem_of_getElem? hx)
  ·exact ⟨Int.le_refl _,by decide⟩
 ·exact ⟨Int.le_refl _,by decide⟩
theorem get_wok {x:Ends} (b:List UInt8) (h:∀ q∈x.wins,q.2.ok):∀ q∈(x.get b).2.wins,q.2.ok:=by
 have hsq:=parseP_seqn b;unfold Ends.get;split
 ·exact h
 split
 ·exact h
 dsimp only
 have hn:∀ q∈puts ((parseP b).1.frm,(parseP b).1.epoch) x.wins ((got ((parseP b).1.frm,(parseP b).1.epoch) x.wins Wn.new).take (parseP b).1.boot (parseP b).1.seqn).2,q.2.ok:=fun q hq=>by
  rcases puts_mem hq with hq|rfl
  ·exact h q hq
  ·exact take_ok (got_wok h _) hsq
 split<;>exact hn
theorem get_keep (x:Ends) (b:List UInt8):(x.get b).2.root=x.root∧(x.get b).2.who=x.who∧(x.get b).2.boot=x.boot∧(x.get b).2.sent=x.sent:=by
 unfold Ends.get;split
 ·exact ⟨rfl,rfl,rfl,rfl⟩
 split
 ·exact ⟨rfl,rfl,rfl,rfl⟩
 dsimp only;split<;>exact ⟨rfl,rfl,rfl,rfl⟩
theorem Gw.ok.up {x:Gw} {n m:Nat} (h:x.ok n) (hm:n≤m):x.ok m:=⟨h.g,fun s=>by have:=h.f s;omega,h.nd,h.l,h.w,fun k=>by have:=h.a k;omega,h.s⟩
theorem Gw.ok.sends {x:Gw} {n:Nat} (h:x.ok n) (who:List Int):(x.sends who).2.ok (n + who.length)∧(x.sends who).2.cfg=x.cfg∧(x.sends who).2.wt=x.wt∧(x.sends who).2.ask=x.ask∧(x.sends who).1.length=who.length:=by
 obtain ⟨f1,f2,f3,f4,f5,f6⟩:=go_keep x who ([],x.ends) n (by omega) h.f;refine ⟨⟨⟨h.g.c,?_,?_,?_⟩,fun s=>by have:=f1 s;show 0≤got s (who.foldl x.go ([],x.ends)).2.sent 0∧got s (who.foldl x.go ([],x.ends)).2.sent 0≤((n + who.length:Nat):Int);omega,h.nd,h.l,h.w,fun k=>by have:=h.a k;show 0≤x.ask k∧x.ask k≤_;omega,?_⟩,rfl,rfl,rfl,by show (who.foldl x.go ([],x.ends)).1.length=_;simpa using f6⟩
 ·show (who.foldl x.go ([],x.ends)).2.root.length≤_
  rw [f2];exact h.g.r
 ·show (who.foldl x.go ([],x.ends)).2.who=_
  rw [f3];exact h.g.w
 ·show (who.foldl x.go ([],x.ends)).2.boot=_
  rw [f4];exact h.g.b
 ·show ∀ q∈(who.foldl x.go ([],x.ends)).2.wins,q.2.ok
  rw [f5];exact h.s
theorem Gw.ok.tick {x:Gw} {n:Nat} (h:x.ok n):x.tick.2.ok (n + 4)∧x.tick.2.cfg=x.cfg∧x.tick.2.wt=x.wt∧x.tick.2.ask=x.ask∧x.tick.1.length=x.wt.length:=by
 obtain ⟨h1,h2,h3,h4,h5⟩:=h.sends x.keys;have hl:x.keys.length=x.wt.length:=by unfold Gw.keys;exact List.length_map ..
 exact ⟨h1.up (by have:=h.l;omega),h2,h3,h4,by rw [←hl];exact h5⟩
theorem not_in {l:Wt} {k:Int} (h:wGet l k=none):∀ p∈l,p.1≠k:=fun p hp hk=>by
 obtain ⟨b,hb⟩:=wGet_in hp;rw [hk,h] at hb;cases hb
theorem wGet_app {l:Wt} {k:Int} {b:List UInt8} (h:wGet l k=none) (c:Int):wGet (l ++ [(k,b)]) c=if c=k then some b else wGet l c:=by
 have key:∀ (l:Wt),(∀ p∈l,p.1≠k)→wGet (l ++ [(k,b)]) c=if c=k then some b else wGet l c:=by
  intro l
  induction l with
  | nil=>
   intro _
   by_cases hc:c=k
   ·simp [wGet,atI,hc]
   ·simp [wGet,atI,hc]
  | cons p l ih=>
   intro hp;have h1:=ih fun q hq=>hp q (by simp [hq])
   have hpk:=hp p (by simp)
   have e:∀ m:Wt,wGet (p :: m) c=if c=p.1 then some p.2 else wGet m c:=fun m=>by
    unfold wGet;simp only [atI]
    by_cases hc:c=p.1
    ·rw [if_pos hc,if_pos hc];rfl
    ·rw [if_neg hc,if_neg hc]
     cases atI c m with
     | none=>rfl
     | some n=>rfl
   rw [List.cons_append,e,e,h1]
   by_cases hc:c=p.1
   ·rw [if_pos hc,if_pos hc,if_neg (by rw [hc];exact hpk)]
   ·rw [if_neg hc,if_neg hc]
 exact key l (not_in h)
theorem Gw.ok.room {x:Gw} {n:Nat} (h:x.ok n) {k:Nat} (hk:k < 4) (hw:wGet x.wt k=none):x.wt.length < 4:=by
 have h1:=pig 4 (k :: x.wt.map fun p=>p.1.toNat) (by
  refine List.nodup_cons.2 ⟨fun hm=>?_,?_⟩
  ·obtain ⟨p,hp,he⟩:=List.mem_map.1 hm;have h2:=(h.w p hp).1;exact not_in hw p hp (by omega)
  ·have hnd:=h.nd;unfold Wt.nd at hnd;have hw2:=h.w;generalize x.wt=l at *;clear hw
   induction l with
   | nil=>exact List.nodup_nil
   | cons p l ih=>
    rw [List.map_cons,List.nodup_cons] at hnd ⊢;refine ⟨fun hm=>?_,ih hnd.2 fun q hq=>hw2 q (by simp [hq])⟩;obtain ⟨q,hq,he⟩:=List.mem_map.1 hm;have a1:=(hw2 p (by simp)).1;have a2:=(hw2 q (by simp [hq])).1;exact hnd.1 (List.mem_map.2 ⟨q,hq,by omega⟩)) (fun y hy=>by
  rcases List.mem_cons.1 hy with rfl|hy
  ·exact hk
  ·obtain ⟨p,hp,rfl⟩:=List.mem_map.1 hy;have:=(h.w p hp).1;omega)
 rw [List.length_cons,List.length_map] at h1;omega
theorem Gw.ok.take {x:Gw} {n:Nat} (h:x.ok n) {k:Nat} (hk:k < 4) {b:List UInt8} (hb:b.length≤1024) (hw:wGet x.wt k=none):(x.take k b).ok (n + 1)∧(x.take k b).fine k:=by
 have hr:=h.room hk hw
 have hge:∀ i,x.ask i≤(x.take k b).ask i:=fun i=>by
  show x.ask i≤updA x.ask (k:Int).toNat (x.ask (k:Int).toNat + 1) i
  unfold updA;split
  ·rename_i hi;rw [hi];omega
  ·omega
 have hle:∀ i,(x.take k b).ask i≤x.ask i + 1:=fun i=>by
  show updA x.ask (k:Int).toNat (x.ask (k:Int).toNat + 1) i≤_
  unfold updA;split
  ·rename_i hi;rw [hi];omega
  ·omega
 have hk1:1≤(x.take k b).ask (k:Int).toNat:=by
  show 1≤updA x.ask (k:Int).toNat (x.ask (k:Int).toNat + 1) (k:Int).toNat
  unfold updA;rw [if_pos rfl];have:=(h.a (k:Int).toNat).1;omega
 have hc:(k:Int)=0∨(k:Int)=1∨(k:Int)=2∨(k:Int)=3:=by omega
 have ho:(x.take k b).ok (n + 1):=⟨⟨h.g.c,h.g.r,h.g.w,h.g.b⟩,fun s=>by have:=h.f s;show 0≤got s x.ends.sent 0∧got s x.ends.sent 0≤_;omega,by
  show ((x.wt ++ [((k:Int),b)]).map (·.1)).Nodup
  rw [List.map_append,List.nodup_append];refine ⟨h.nd,by simp,fun a ha c hc e=>?_⟩;obtain ⟨p,hp,rfl⟩:=List.mem_map.1 ha;have:c=(k:Int):=by simpa using hc
  exact not_in hw p hp (e.trans this),by
  show (x.wt ++ [((k:Int),b)]).length≤4
  rw [List.length_append];simp;omega,fun p hp=>by
  rcases List.mem_append.1 hp with hp|hp
  ·have:=h.w p hp;exact ⟨this.1,this.2.1,Int.le_trans this.2.2 (hge _)⟩
  ·have e:p=((k:Int),b):=by simpa using hp
   subst e;exact ⟨hc,hb,hk1⟩,fun i=>by
  have h1:=h.a i;have h2:=hge i;have h3:=hle i;omega,h.s⟩
 refine ⟨ho,?_⟩;have:=ho.fine (p:=((k:Int),b)) (by show _∈x.wt ++ [((k:Int),b)];simp);exact this
theorem gwaits_ac (x:Gw) (n:Nat) (h:x.ok n) (c:Int):AC Tryz.prog 16 [.bp 0 0 0,I c] [gB x] (fun v bs'=>v=.tu [I (x.waits c).1,B (x.waits c).2]∧bs'=[gB x]):=by
 cases hw:wGet x.wt c with
 | none=>
  have e1:x.waits c=(0,false):=by unfold Gw.waits;rw [hw];rfl
  rw [e1];exact gwaits_no x c hw
 | some b=>
  have hc:=(h.w _ (wGet_mem hw)).1;obtain ⟨k,rfl⟩:∃ k:Nat,c=k:=⟨c.toNat,by dsimp only at hc;omega⟩;have e1:x.waits k=(x.ask k,true):=by unfold Gw.waits;rw [hw];rfl
  rw [e1];exact gwaits_yes x k (by dsimp only at hc;omega) b hw
def Gw.cnt (x:Gw):Nat→Nat
 | 0=>0
 | c + 1=>x.cnt c + (if (x.waits (c:Int)).2=true then 1 else 0)
theorem Gw.cnt_le (x:Gw):∀ c,x.cnt c≤c
 | 0=>Nat.le_refl _
 | c + 1=>by have:=x.cnt_le c;unfold Gw.cnt;split<;>omega
theorem waits_some (x:Gw) (c:Int):(x.waits c).2=(wGet x.wt c).isSome:=by
 unfold Gw.waits;split
 ·rename_i h;exact h.symm
 ·rename_i h;simp only [Bool.not_eq_true] at h;exact h.symm
theorem wGet_cons (p:Int×List UInt8) (l:Wt) (c:Int):wGet (p :: l) c=if c=p.1 then some p.2 else wGet l c:=by
 unfold wGet;simp only [atI]
 by_cases hc:c=p.1
 ·rw [if_pos hc,if_pos hc];rfl
 ·rw [if_neg hc,if_neg hc]
  cases atI c l with
  | none=>rfl
  | some n=>rfl
theorem wGet_none {l:Wt} {k:Int} (h:∀ p∈l,p.1≠k):wGet l k=none:=by
 cases hw:wGet l k with
 | none=>rfl
 | some b=>exact absurd rfl (h _ (wGet_mem hw))
theorem cnt_sum:∀ (l:Wt),l.nd→(∀ p∈l,p.1=0∨p.1=1∨p.1=2∨p.1=3) →
 (if (wGet l 0).isSome=true then 1 else 0) + (if (wGet l 1).isSome=true then 1 else 0) + (if (wGet l 2).isSome=true then 1 else 0) + (if (wGet l 3).isSome=true then 1 else 0)=l.length
 | [],_,_=>rfl
 | p :: l,hn,hw=>by
  unfold Wt.nd at hn;rw [List.map_cons,List.nodup_cons] at hn;have ih:=cnt_sum l hn.2 fun q hq=>hw q (by simp [hq])
  have hno:wGet l p.1=none:=wGet_none fun q hq e=>hn.1 (List.mem_map.2 ⟨q,hq,e⟩)
  rw [List.length_cons,←ih];simp only [wGet_cons];rcases hw p (by simp) with h|h|h|h<;>(rw [h] at hno ⊢;simp [hno];try omega)
theorem Gw.ok.cnt {x:Gw} {n:Nat} (h:x.ok n):x.cnt 4=x.wt.length:=by
 rw [←cnt_sum x.wt h.nd fun p hp=>(h.w p hp).1];simp only [Gw.cnt,waits_some,Nat.zero_add];rfl
def Ga.n (a:Ga):Nat:=((IntKind.u64.wrap a.frm) % 10).toNat
theorem Ga.n_lt (a:Ga):a.n < 10:=by
 unfold Ga.n;have h3:=Int.emod_nonneg (IntKind.u64.wrap a.frm) (show (10:Int)≠0 by omega);have h4:=Int.emod_lt_of_pos (IntKind.u64.wrap a.frm) (show (0:Int) < 10 by omega);omega
theorem Ga.n_eq (a:Ga):IntKind.i64.wrap ((IntKind.u64.wrap a.frm).tmod 10)=(a.n:Int):=by
 have h0:0≤IntKind.u64.wrap a.frm:=by unfold IntKind.wrap;simp [IntKind.signed,IntKind.bits];omega
 rw [Int.tmod_eq_emod_of_nonneg h0];have h3:=Int.emod_nonneg (IntKind.u64.wrap a.frm) (show (10:Int)≠0 by omega);have h4:=Int.emod_lt_of_pos (IntKind.u64.wrap a.frm) (show (0:Int) < 10 by omega);unfold Ga.n;generalize IntKind.u64.wrap a.frm % 10=y at *;rw [wrap_i64 (by omega) (by omega)];omega
def pkS (L:List De) (a:Ga):List UInt8×List De:=if a.kind=5 then (a.body,L) else match L[a.n]? with
 | some y=>((y.send 8 a.epoch (formM a.m)).1.1,L.set a.n (y.send 8 a.epoch (formM a.m)).2)
 | none=>([],L)
structure De.fit (root:List UInt8) (y:De) (n:Nat):Prop where
 r:y.root=root
 l:y.l.length≤n
 a:∀ s,0≤(y.at s).1∧(y.at s).1≤n
structure Prs (root:List UInt8) (L:List De) (n:Nat):Prop where
 len:L.length=10
 f:∀ y∈L,De.fit root y n
/-- an act that is gone through -/
structure Ga.fine (a:Ga):Prop where
 b:a.body.length≤8000
 mb:a.m.body.length≤8000
 me:a.m.entries.length≤8000
 mm:a.m.cfg.members.length≤400
 e:waE a.m.entries≤8000
theorem waE_sum (l:List Entry):(l.map fun e=>e.body.length).sum≤waE l:=by
 induction l with
 | nil=>simp [waE]
 | cons x l ih=>simp only [List.map_cons,List.sum_cons,waE];omega
theorem waE_form (l:List Entry):(l.map restF).flatten.length≤waE l:=by
 induction l with
 | nil=>simp [waE]
 | cons x l ih=>simp only [List.map_cons,List.flatten_cons,List.length_append,restF_length,waE];omega
theorem Ga.fine.form {a:Ga} (h:a.fine):(formM a.m).length≤60000:=by
 have h1:=h.mb;have h2:=h.e;have h3:=h.mm;have h4:=waE_form a.m.entries
 have h5:(fieldF a.m).length≤20000:=by
  unfold fieldF;split
  ·simp only [askF,List.length_append,numS_length,putS_length,List.length_cons,List.length_nil];omega
  ·simp only [entF,List.length_append,numS_length,List.length_cons,List.length_nil];omega
  ·simp only [numS_length,List.length_cons,List.length_nil];omega
  ·rw [configF_length];omega
  ·simp only [numS_length,List.length_cons,List.length_nil];omega
  ·simp only [askF,List.length_append,numS_length,putS_length,List.length_cons,List.length_nil];omega
  ·simp
 show (a.m.kind :: fieldF a.m).length≤_
 rw [List.length_cons];omega
theorem pk_ac {root:List UInt8} {L:List De} {n:Nat} (a:Ga) (h:Prs root L n) (hn:n≤900) (hr:root.length≤10000) (hf:a.fine):AC Tryz.prog 30 [.hd 0 0,.ag (eGa a)] [dsR L] (fun v bs'=>v=bs none (pkS L a).1∧bs'=[dsR (pkS L a).2]):=by
 unfold pkS
 by_cases hk:a.kind=5
 ·rw [if_pos hk];have q1:(a.kind == 5)=true:=by simpa using hk
  refine AC.N Tryz.func30 Tryz.ntmps30 ?_;intro X hρ hmks;refine NX ?_;iterate 4 refine CP.SL ?_
  repeat' (first|((first|refine wA1 ?_|(refine GA ?_;refine ⟨fun hg=>?_,fun hg=>?_⟩)|(refine GV ?_;intro c hnil;simp only [nz])|refine wA2 ?_|refine wD3 ?_)<;>(try simp only [q1,nq,Nat.reduceBEq,Nat.reduceAdd,Nat.reduceSub]))|refine wT2 ?_|with_reducible intro Q' hQ'|(refine GC ?_;refine ⟨fun hc=>?_,fun hc=>?_⟩)|simp only [la])
  (exact RetQ.A [(0,0)] (by exact ⟨rfl,rfl⟩))
 ·rw [if_neg hk];have q1:(a.kind == 5)=false:=by simpa using hk
  have q2:=a.n_eq;have hnl:a.n < L.length:=by have:=a.n_lt;rw [h.len];omega
  have hL:L[a.n]? = some L[a.n]:=List.getElem?_eq_getElem hnl;have hro:(L.map obD)[a.n]? = some [.ob tDe (deC L[a.n])]:=by rw [List.getElem?_map,hL];rfl
  have hset:∀ y:De,(L.map obD).set a.n [.ob tDe (deC y)]=(L.set a.n y).map obD:=fun y=>by rw [List.map_set]
  have hln:(L.map obD).length=L.length:=List.length_map ..;have hy:=h.f _ (List.getElem_mem hnl);rw [hL];dsimp only;have hfl:=hf.form;have h1:=(dmform_ac a.m ⟨by have:=hf.mb;omega,by have:=hf.me;omega,by have:=hf.mm;omega,fun e he=>by have:=waE_mem he;have:=hf.e;omega⟩ ⟨by have:=hf.me;omega,fun e he=>by have:=waE_mem he;have:=hf.e;omega⟩ (by have:=waE_sum a.m.entries;have:=hf.e;omega) (by have:=hf.mb;omega) (by have:=hf.mm;omega)).ro (r2:=bs none (formM a.m)) (by simp only [AV.ro,ro_B]);have h2:=dsend_ac L[a.n] 8 a.epoch (formM a.m) (by have:=hy.l;omega) (by rw [hy.r];exact hr) hfl (by have:=hy.a (8,a.epoch);omega);have hset1:=hset (L[a.n].send 8 a.epoch (formM a.m)).2;clear hset hL hfl hy;generalize L[a.n].send 8 a.epoch (formM a.m)=R at *;generalize L[a.n]=y at *;generalize formM a.m=body at *;generalize a.n=k at *;obtain ⟨⟨b,e⟩,y2⟩:=R;dsimp only at *;refine AC.N Tryz.func30 Tryz.ntmps30 ?_;intro X hρ hmks;refine NX ?_;iterate 4 refine CP.SL ?_
  repeat' (first|((first|refine wA1 ?_|(refine GA ?_;refine ⟨fun hg=>?_,fun hg=>?_⟩)|(refine GV ?_;intro c hnil;simp only [nz])|refine wA2 ?_)<;>(try simp only [q1,q2,nq,Nat.reduceBEq,Nat.reduceAdd,Nat.reduceSub]))|refine wT6 ?_|with_reducible intro Q' hQ'|(refine GC ?_;refine ⟨fun hc=>?_,fun hc=>?_⟩)|simp only [la])
  refine CP.gh (gh_open (j:=0) (n:=k) rfl hro rfl rfl) ?_;simp only [opnC,opnA,nx,Nat.reduceAdd,Nat.reduceSub,BEq.rfl]
  repeat' (first|((first|refine wA1 ?_|(refine GA ?_;refine ⟨fun hg=>?_,fun hg=>?_⟩)|(refine GV ?_;intro c hnil;simp only [nz])|refine aC1 h1 ?_|refine aC4 h2 ?_|refine wA2 ?_|refine wD4 ?_|refine dC1 h1 ?_|refine dC3 h2 ?_)<;>(try simp only [q2,hln,nq,Nat.reduceBEq,Nat.reduceAdd,Nat.reduceSub]))|refine wT7 ?_|with_reducible intro Q' hQ'|(refine GC ?_;refine ⟨fun hc=>?_,fun hc=>?_⟩)|simp only [la])
  (exact RetQ.A [(0,0)] (by exact ⟨rfl,congrArg (fun r=>[Bx.r tDp 1 r]) hset1⟩))
theorem spl_all {α:Type}:∀ (r l:List α) (o:Nat),o + r.length=l.length→spl l o r=l.take o ++ r
 | [],l,o,h=>by simp at h;subst h;simp [spl]
 | a :: r,l,o,h=>by
  have h1:o < l.length:=by simp at h;omega
  rw [spl,spl_all r (l.set o a) (o + 1) (by simp at h ⊢;omega),List.take_set,List.take_add_one,List.getElem?_eq_getElem h1];have h2:(l.take o).length=o:=by simp;omega
  rw [List.set_append_right _ _ (by omega)];simp [h2]
section
variable {X:Cx} {s:AS} {ops:Array Oper} {rest:List Oper} {Q:Exit→AS→Prop} {d:Option Nat} {ty:Nat} {pos:String} {aft:Array Edge} {T e k:Nat} {i ie:TI} {x:Operand}
theorem bld1 {z:List ZC} (hz:z.length=k) (h:(aev s x).cells.length=k):bldA s k [(0,x)] (zrow z 1)=(aev s x).cells:=by
 simp only [bldA,Nat.zero_mul];rw [spl_all _ _ _ (by simp [zrow,hz,h])];simp
theorem chunk1 {k:Nat} {l:List AV} (h:l.length=k):chunks k 1 l=[l]:=by
 simp only [chunks];rw [List.take_of_length_le (by omega)]
theorem AP.B1 {z:List ZC} {fl fl':List AV} {b':List Sl} {av:AV} (KK:AP Tryz.prog X ops Q rest (AS.put ⟨s.t,(newS b' (.r e k [fl'])).2⟩ d (.hd (newS b' (.r e k [fl'])).1.1 (newS b' (.r e k [fl'])).1.2))) (hT:tt[T]? = some i:=by exact rfl) (hk:i.kd=.sl e:=by exact rfl) (he:tt[e]? = some ie:=by exact rfl) (hz:ie.zero=some z:=by exact rfl) (hsz:ie.size=k:=by exact rfl)
 (hzl:z.length=k:=by exact rfl) (h1:Nat.ble 1 k=true:=by exact rfl) (h2:Nat.ble (1 * k) 1000000=true:=by exact rfl) (hx:aev s x=av:=by exact rfl) (hkn:av.known=true:=by exact rfl) (hfl:av.cells=fl:=by exact rfl) (hl:fl.length=k:=by exact rfl) (hcl:ClsC s.b fl fl' b':=by ((repeat' (first|exact ClsC.nil|apply ClsC.nl|apply ClsC.leaf rfl|apply ClsC.hd rfl|apply ClsC.ob rfl|apply ClsC.mo rfl|apply ClsC.mp rfl|apply ClsC.hp rfl|exact Out.nil|apply Out.cons rfl|apply Out.r rfl|apply Out.f rfl|apply ClsC.fn|apply ClsC.fz rfl (ro_B _)|apply ClsC.fz rfl (ro_M _)|apply ClsC.fz rfl (ro_E _ _)|apply ClsC.fz rfl rfl));all_goals fail)) (hl':fl'.length=k:=by exact rfl):AP Tryz.prog X ops Q (⟨d,.buildSlice T 1 #[(0,x)],ty,pos,aft,none⟩ :: rest) s:=by
 subst hx hfl;exact ap_buildSlice rfl rfl hT hk he hz hsz h1 h2 (by simp [hkn,hl]) (bld1 hzl hl) hcl (chunk1 hl') KK
end
theorem onr_ac (x:Gw) (n:Nat) (p:Pkt) (m:Msg) (h:x.ok n) (hm:m.body.length≤100000000):AC Tryz.prog 112 [.bp 0 0 0,.ag (eP p),.ag (eG m)] [gB x] (fun v bs'=>v=.tu [anO (x.onr m).1.1,bss none [],I (x.onr m).1.2]∧bs'=[gB (x.onr m).2]):=by
 have h1:=parseRp_ac m.body hm;unfold Gw.onr;generalize parseRp m.body=R at *;obtain ⟨r,e⟩:=R;dsimp only at *
 by_cases he:e=0
 ·subst he;rw [if_neg (by simp)];have q0:((0:Int) != 0)=false:=rfl
  cases hw:wGet x.wt m.client with
  | none=>
   have e1:x.waits m.client=(0,false):=by unfold Gw.waits;rw [hw];rfl
   rw [e1,if_pos (.inl rfl)];have h2:=gwaits_no x m.client hw;refine AC.N Tryz.func112 Tryz.ntmps112 ?_;intro X hρ hmks;refine NX ?_;iterate 5 refine CP.SL ?_
   repeat' (first|((first|refine wA1 ?_|(refine GA ?_;refine ⟨fun hg=>?_,fun hg=>?_⟩)|(refine GV ?_;intro c hnil;simp only [nz])|refine aC4 h2 ?_|refine wA2 ?_|refine wD4 ?_|refine dC3 h2 ?_)<;>(try simp only [q0,nq,Nat.reduceBEq,Nat.reduceAdd,Nat.reduceSub]))|refine wT2 ?_|with_reducible intro Q' hQ'|(refine GC ?_;refine ⟨fun hc=>?_,fun hc=>?_⟩)|simp only [la])
   (exact RetQ.A [(0,0)] (by exact ⟨rfl,rfl⟩))
  | some b=>
   have hc:=(h.w _ (wGet_mem hw)).1;obtain ⟨k,hk⟩:∃ k:Nat,m.client=k:=⟨m.client.toNat,by dsimp only at hc;omega⟩;obtain ⟨j,hj⟩:=atI_mem (wGet_mem hw) rfl;have e1:x.waits m.client=(x.ask k,true):=by unfold Gw.waits;rw [hw,hk];rfl
   have e2:wTake x.wt m.client=x.wt.eraseIdx j:=by unfold wTake;rw [hj]
   rw [e1,e2];have h3:=ptake_ac 4 x.wt m.client j hj h.nd (by have:=h.l;omega);obtain ⟨kd,cl,id,bd,up,fr,en,ha,dn,cf,si⟩:=m;dsimp only at *;subst hk;have h2:=gwaits_yes x k (by omega) b hw
   by_cases hid:x.ask k=id
   ·subst hid;rw [if_neg (by simp)];have q1:(x.ask k != x.ask k)=false:=by simp
    rw [hw] at h3;refine AC.N Tryz.func112 Tryz.ntmps112 ?_;intro X hρ hmks;refine NX ?_;iterate 5 refine CP.SL ?_
    repeat' (first|((first|refine wA1 ?_|(refine GA ?_;refine ⟨fun hg=>?_,fun hg=>?_⟩)|(refine GV ?_;intro c hnil;simp only [nz])|refine aC4 h2 ?_|refine wA2 ?_)<;>(try simp only [q0,q1,nq,Nat.reduceBEq,Nat.reduceAdd,Nat.reduceSub]))|refine wT6 ?_|with_reducible intro Q' hQ'|(refine GC ?_;refine ⟨fun hc=>?_,fun hc=>?_⟩)|simp only [la])
    first|refine cp_drwX fun Q' hQ'=>?_|refine cp_drawX ?_
    iterate 6 (((with_reducible apply DW.k_any);refine DW.ST ?_)<;>(try simp only [nq,Nat.reduceBEq,Nat.reduceAdd,Nat.reduceSub]))
    refine DW.A 0 ?_;simp only [nq,Nat.reduceBEq,Nat.reduceAdd,Nat.reduceSub]
    repeat' (first|((first|refine wA14 ?_|(refine GA ?_;refine ⟨fun hg=>?_,fun hg=>?_⟩)|((with_reducible apply AP.k_any);refine AP.B1 ?_)|refine wA15 ?_|(refine GV ?_;intro c hnil;simp only [nz])|refine wA2 ?_|refine wD4 ?_|((with_reducible apply DW.k_any);refine DW.known rfl ?_;(with_reducible first|apply DW.sx 2);(iterate 2 (focus (simp only [ft,nm,Nat.reduceAdd,Nat.reduceBEq,List.getElem?_cons_zero,List.getElem?_cons_succ];exact rfl)));(focus (intro X V;simp only [ft,nm,Nat.reduceAdd,Nat.reduceBEq];(try (refine AP.Y ?_;dsimp only));(first|((with_reducible apply AP.k_any);refine AP.B1 ?_)|fail);(try refine NX ?_);refine AP.nil ?_;(first|refine ⟨trivial,rfl,?_⟩|refine ⟨rfl,rfl,?_⟩);(repeat' (first|exact Mg.nil|apply Mg.keep rfl|apply Mg.take rfl));done));(focus (refine Exists.intro (fun _=>0) ?_;apply Exists.intro;(repeat' (first|exact Mg.nil|apply Mg.keep rfl|apply Mg.take rfl));done));(iterate 2 (focus (exact rfl)))))<;>(try refine NQ ?_))|refine wT2 ?_|with_reducible intro Q' hQ'|(refine GC ?_;refine ⟨fun hc=>?_,fun hc=>?_⟩)|simp only [la])
    (exact RetQ.A [(0,0)] (by exact ⟨rfl,rfl⟩))
   ·rw [if_pos (.inr hid)];have q1:(x.ask k != id)=true:=by simpa using hid
    refine AC.N Tryz.func112 Tryz.ntmps112 ?_;intro X hρ hmks;refine NX ?_;iterate 5 refine CP.SL ?_
    repeat' (first|((first|refine wA1 ?_|(refine GA ?_;refine ⟨fun hg=>?_,fun hg=>?_⟩)|(refine GV ?_;intro c hnil;simp only [nz])|refine aC4 h2 ?_|refine wA2 ?_|refine wD4 ?_|refine dC3 h2 ?_)<;>(try simp only [q0,q1,nq,Nat.reduceBEq,Nat.reduceAdd,Nat.reduceSub]))|refine wT2 ?_|with_reducible intro Q' hQ'|(refine GC ?_;refine ⟨fun hc=>?_,fun hc=>?_⟩)|simp only [la])
    (exact RetQ.A [(0,0)] (by exact ⟨rfl,rfl⟩))
 ·rw [if_pos he];have q0:(e != 0)=true:=by simpa using he
  refine AC.N Tryz.func112 Tryz.ntmps112 ?_;intro X hρ hmks;refine NX ?_;iterate 5 refine CP.SL ?_
  repeat' (first|((first|refine wA1 ?_|(refine GA ?_;refine ⟨fun hg=>?_,fun hg=>?_⟩)|(refine GV ?_;intro c hnil;simp only [nz])|refine wA2 ?_|refine wD3 ?_)<;>(try simp only [q0,nq,Nat.reduceBEq,Nat.reduceAdd,Nat.reduceSub]))|refine wT2 ?_|with_reducible intro Q' hQ'|(refine GC ?_;refine ⟨fun hc=>?_,fun hc=>?_⟩)|simp only [la])
  (exact RetQ.A [(0,0)] (by exact ⟨rfl,rfl⟩))
/-- a message that comes -/
def Gw.come (x:Gw) (p:Pkt) (m:Msg):(List An×List (List UInt8)×Int)×Gw:=
 if m.kind=4∧p.frm=9 then (([],(x.onc p m).1.1,(x.onc p m).1.2),(x.onc p m).2)
 else if m.kind=6∧p.frm < 5 then (((x.onr m).1.1,[],(x.onr m).1.2),(x.onr m).2)
 else (([],[],200),x)
def Gw.get (x:Gw) (b:List UInt8):(List An×List (List UInt8)×Int)×Gw:=
 let r:=x.ends.get b
 let y:Gw:={ x with ends:=r.2 }
 if r.1.2≠0 then (([],[],r.1.2),y) else if (parseM r.1.1.body).2≠0 then (([],[],(parseM r.1.1.body).2),y) else y.come r.1.1 (parseM r.1.1.body).1
theorem get_old (x:Ends) (b:List UInt8) (hb:b.length≤60000) (hr:x.root.length≤10000) (hwo:∀ q∈x.wins,q.2.ok) (h:(parseP b).2=0) (h3:(parseP b).1.to=x.who) (h4:(parseP b).1.tag=tagS x.root (parseP b).1) (hm:mayP (parseP b).1=true)
 {n:Nat} (ha:at_ ((parseP b).1.frm,(parseP b).1.epoch) x.wins=some n):AC Tryz.prog 61 [.bp 0 0 0,bs none b] [xE x] (fun v bs'=>v=.tu [.ag (eP (x.get b).1.1),I (x.get b).1.2]∧bs'=[xE (x.get b).2]):=by
 rw [get_go x b h h3 h4];have h1:=lnone_ac x;have h2:=parseP_ac b (by omega);have hbl:=parseP_body b hb;have htl:=parseP_tag b;have hsq:=parseP_seqn b;rw [h] at h2;generalize (parseP b).1=p at *;have h5:=right_ac x.root p hr hbl htl;rw [decide_eq_true h4] at h5;obtain ⟨he,hbo,hs⟩:=mayP_of hm;obtain ⟨w,hv⟩:=at_some ha;have hg:got (p.frm,p.epoch) x.wins Wn.new=w:=by unfold got;rw [ha];dsimp only;rw [hv]
 have hp:∀ w1,puts (p.frm,p.epoch) x.wins w1=x.wins.set n ((p.frm,p.epoch),w1):=fun w1=>by unfold puts;rw [ha]
 dsimp only;rw [hg];have h7:=take18_ac w p.boot p.seqn hsq (hwo _ (List.mem_of_getElem? hv));have hk:=kinS x.wins;have hf:=fnd_at_ (p.frm,p.epoch) x.wins;rw [ha] at hf
 have e1:∀ w1,xE { x with wins:=puts (p.frm,p.epoch) x.wins w1 }=.c tEn [B true,bs none x.root,I x.who,I x.boot,.mo (keyN x.sent) (rowN x.sent),.mo (keyW x.wins) ((rowW x.wins).set n [.ob tWn (wC w1)])]:=fun w1=>by
  rw [hp];have e2:=puts_keys ha w1;have e3:(x.wins.set n ((p.frm,p.epoch),w1)).map (fun p:Sd×Wn=>[AV.ob tWn (wC p.2)])=(rowW x.wins).set n [.ob tWn (wC w1)]:=by rw [List.map_set]
  dsimp only [xE,enE,keyW,rowW];rw [e2,e3]
 have hc:(rowW x.wins)[n]? = some [.ob tWn (wC w)]:=by rw [List.getElem?_map,hv];rfl
 have d1:(p.to != x.who)=false:=by simpa using h3
 clear h4 hp;rcases take_two w p.boot p.seqn hbo hs with ht|ht
 ·rw [ht] at h7 ⊢;dsimp only at h7 ⊢;generalize w.after p.boot p.seqn=w1 at *;rw [if_neg (by decide)];dsimp only;rw [e1];clear e1;refine AC.N Tryz.func61 Tryz.ntmps61 ?_;intro X hρ hmks;refine NX ?_;refine CP.gh gh_slot ?_;refine NX ?_
  refine CP.gh gh_slot ?_;refine NX ?_
  refine CP.gh gh_slot ?_;refine NX ?_
  refine CP.gh gh_slot ?_;refine NX ?_
  repeat' (first|((first|refine wA1 ?_|(refine GA ?_;refine ⟨fun hg=>?_,fun hg=>?_⟩)|(refine GV ?_;intro c hnil;simp only [nz])|refine wA2 ?_)<;>(try simp only [d1,nq,Nat.reduceBEq,Nat.reduceAdd,Nat.reduceSub]))|refine wT6 ?_|with_reducible intro Q' hQ'|(refine GC ?_;refine ⟨fun hc=>?_,fun hc=>?_⟩)|simp only [la])
  first|refine cp_drwX fun Q' hQ'=>?_|refine cp_drawX ?_
  repeat' (first|((first|refine wA1 ?_|(refine GA ?_;refine ⟨fun hg=>?_,fun hg=>?_⟩)|(refine GV ?_;intro c hnil;simp only [nz])|refine wA2 ?_|refine wD3 ?_)<;>(try simp only [d1,nq,Nat.reduceBEq,Nat.reduceAdd,Nat.reduceSub]))|refine wT6 ?_|with_reducible intro Q' hQ'|(refine GC ?_;refine ⟨fun hc=>?_,fun hc=>?_⟩)|simp only [la])
  first|refine cp_drwX fun Q' hQ'=>?_|refine cp_drawX ?_
  repeat' (first|((first|refine wA1 ?_|(refine GA ?_;refine ⟨fun hg=>?_,fun hg=>?_⟩)|(refine GV ?_;intro c hnil;simp only [nz])|refine wA2 ?_|refine wD3 ?_)<;>(try simp only [d1,nq,Nat.reduceBEq,Nat.reduceAdd,Nat.reduceSub]))|refine wT6 ?_|with_reducible intro Q' hQ'|(refine GC ?_;refine ⟨fun hc=>?_,fun hc=>?_⟩)|simp only [la])
  refine CP.gh (gh_openM (j:=2) (n:=n) rfl hc rfl rfl) ?_;refine NX ?_
  repeat' (first|((first|refine wA1 ?_|(refine GA ?_;refine ⟨fun hg=>?_,fun hg=>?_⟩)|(refine GV ?_;intro c hnil;simp only [nz])|refine aC4 h7 ?_|refine wA2 ?_|refine wD4 ?_|refine dC3 h7 ?_)<;>(try simp only [d1,nq,Nat.reduceBEq,Nat.reduceAdd,Nat.reduceSub]))|refine wT2 ?_|with_reducible intro Q' hQ'|(refine GC ?_;refine ⟨fun hc=>?_,fun hc=>?_⟩)|simp only [la])
  (exact RetQ.A [(0,0)] (by exact ⟨rfl,rfl⟩))
 ·rw [ht] at h7 ⊢;dsimp only at h7 ⊢;rw [if_pos (by decide)];dsimp only;rw [e1,pk0_eP,eP_z];clear e1;refine AC.N Tryz.func61 Tryz.ntmps61 ?_;intro X hρ hmks;refine NX ?_;refine CP.gh gh_slot ?_;refine NX ?_
  refine CP.gh gh_slot ?_;refine NX ?_
  refine CP.gh gh_slot ?_;refine NX ?_
  refine CP.gh gh_slot ?_;refine NX ?_
  repeat' (first|((first|refine wA1 ?_|(refine GA ?_;refine ⟨fun hg=>?_,fun hg=>?_⟩)|(refine GV ?_;intro c hnil;simp only [nz])|refine wA2 ?_)<;>(try simp only [d1,nq,Nat.reduceBEq,Nat.reduceAdd,Nat.reduceSub]))|refine wT6 ?_|with_reducible intro Q' hQ'|(refine GC ?_;refine ⟨fun hc=>?_,fun hc=>?_⟩)|simp only [la])
  first|refine cp_drwX fun Q' hQ'=>?_|refine cp_drawX ?_
  repeat' (first|((first|refine wA1 ?_|(refine GA ?_;refine ⟨fun hg=>?_,fun hg=>?_⟩)|(refine GV ?_;intro c hnil;simp only [nz])|refine wA2 ?_|refine wD3 ?_)<;>(try simp only [d1,nq,Nat.reduceBEq,Nat.reduceAdd,Nat.reduceSub]))|refine wT6 ?_|with_reducible intro Q' hQ'|(refine GC ?_;refine ⟨fun hc=>?_,fun hc=>?_⟩)|simp only [la])
  first|refine cp_drwX fun Q' hQ'=>?_|refine cp_drawX ?_
  repeat' (first|((first|refine wA1 ?_|(refine GA ?_;refine ⟨fun hg=>?_,fun hg=>?_⟩)|(refine GV ?_;intro c hnil;simp only [nz])|refine wA2 ?_|refine wD3 ?_)<;>(try simp only [d1,nq,Nat.reduceBEq,Nat.reduceAdd,Nat.reduceSub]))|refine wT6 ?_|with_reducible intro Q' hQ'|(refine GC ?_;refine ⟨fun hc=>?_,fun hc=>?_⟩)|simp only [la])
  refine CP.gh (gh_openM (j:=2) (n:=n) rfl hc rfl rfl) ?_;refine NX ?_
  repeat' (first|((first|refine wA1 ?_|(refine GA ?_;refine ⟨fun hg=>?_,fun hg=>?_⟩)|(refine GV ?_;intro c hnil;simp only [nz])|refine aC4 h7 ?_|refine wA2 ?_|refine wD4 ?_|refine dC3 h7 ?_)<;>(try simp only [d1,nq,Nat.reduceBEq,Nat.reduceAdd,Nat.reduceSub]))|refine wT2 ?_|with_reducible intro Q' hQ'|(refine GC ?_;refine ⟨fun hc=>?_,fun hc=>?_⟩)|simp only [la])
  (exact RetQ.A [(0,0)] (by exact ⟨rfl,rfl⟩))
theorem get_ac (x:Ends) (b:List UInt8) (hb:b.length≤60000) (hr:x.root.length≤10000) (hwo:∀ q∈x.wins,q.2.ok):AC Tryz.prog 61 [.bp 0 0 0,bs none b] [xE x] (fun v bs'=>v=.tu [.ag (eP (x.get b).1.1),I (x.get b).1.2]∧bs'=[xE (x.get b).2]):=by
 rcases parse_two b with h|⟨h,hm⟩
 ·exact get_bad x b (by omega) h
 ·by_cases h3:(parseP b).1.to=x.who
  ·by_cases h4:(parseP b).1.tag=tagS x.root (parseP b).1
   ·cases ha:at_ ((parseP b).1.frm,(parseP b).1.epoch) x.wins with
    | none=>exact get_new x b hb hr h h3 h4 hm ha
    | some n=>exact get_old x b hb hr hwo h h3 h4 hm ha
   ·exact get_tag x b hb hr h h3 h4
  ·exact get_far x b (by omega) h h3
theorem run_indexa {T N e n:Nat} {i ie:TI} {k:IntKind} {j:Int} {vs:List Value} (hT:tt[T]? = some i) (hk:i.kd=.ar N e) (he:tt[e]? = some ie) (hsz:ie.size=n) (hrow:rowK ie.kd=true) (h0:0≤j) (hj:j < N) (w:World):(Instr.index T (.agg vs.toArray) (.int k j)).run Tryz.prog w=.ok (.agg ((vs.drop (j.toNat * n)).take n).toArray) w:=by
 obtain ⟨d,hd,hr,_⟩:=ty_row he hrow
 have hagg:(isAgg e).run Tryz.prog w=.ok true w:=by
  unfold isAgg;rw [Sem.run_bind,run_underlying hd w]
  cases d<;>first|rfl|(simp [TypeDesc.isRow] at hr;done)
 have hsize:=ty_size he w;simp [Instr.index,asIntOf,Sem.run_bind,run_underlying (ty_ar hT hk),Result.andThen_ok,h0,hj,hsize,hsz,part,hagg,asAgg,go_sem,List.extract_eq_take_drop]
section
variable {X:Cx} {s:AS} {ops:Array Oper} {rest:List Oper} {Q:Exit→AS→Prop} {d:Option Nat} {ty:Nat} {pos:String} {aft:Array Edge}
theorem AP.IA {T N e n:Nat} {x y:Operand} {l l':List AV} {k:IntKind} {j:Int} {i ie:TI} (K:AP Tryz.prog X ops Q rest (s.put d (.ag l'))) (hx:aev s x=.ag l:=by exact rfl) (hy:aev s y=.sc (.int k j):=by exact rfl) (hT:tt[T]? = some i:=by exact rfl) (hk:i.kd=.ar N e:=by exact rfl) (he:tt[e]? = some ie:=by exact rfl) (hsz:ie.size=n:=by exact rfl) (hrow:rowK ie.kd=true:=by exact rfl)
 (hl:(l.drop (j.toNat * n)).take n=l':=by exact rfl) (hp:0≤j∧j < N:=by (exact PF0)):AP Tryz.prog X ops Q (⟨d,.index T x y,ty,pos,aft,none⟩ :: rest) s:=
 AP.pure rfl (.of_run fun X φ κ f a w h=>by
  have h1:=h.evs hx;have h2:=h.evc hy;generalize hp':a.eval x=p at h1
  cases h1 with
  | ag hc ho=>
   subst hl;refine ⟨_,.ag (hc.drop_ (j.toNat * n) n) (fun u hu=>ho u (List.mem_of_mem_drop (List.mem_of_mem_take hu))),fun w' _=>?_⟩;simp only [execOp,hp',h2,Sem.run_bind,run_indexa hT hk he hsz hrow hp.1 hp.2];simp [go_sem]) K
end
section
variable {s:AS} {ops:Array Oper} {all:List Oper} {K:AS→Prop} {acc:List Fp} {l:List Oper} {av:AV} {op:Op} {ty:Nat} {pos:String} {aft:Array Edge} {g:Option (Nat×Bool)} {d:Nat} {T:List Nat} {F:List Nat} {r:Bool}
theorem DW.IA (hk:DW Tryz.prog ops all K (⟨T,some d,F,false⟩ :: acc) l ⟨s.t.set d av,s.b⟩) (hg:gdS ops s g=some r:=by exact rfl) (hT:opTs ops ⟨some d,op,ty,pos,aft,g⟩=T:=by (simp only [ft,nm,Nat.reduceAdd,Nat.reduceBEq,List.getElem?_cons_zero,List.getElem?_cons_succ];exact rfl)) (hF:ftF 0 s op=F:=by (simp only [ft,nm,Nat.reduceAdd,Nat.reduceBEq,List.getElem?_cons_zero,List.getElem?_cons_succ];exact rfl)) (h:∀ X V,AP Tryz.prog X ops (fun e s'=>e=.normal∧s'=⟨(msT T 0 s.t).set d av,msB F V 0 s.b⟩) [⟨some d,op,ty,pos,aft,g⟩] ⟨msT T 0 s.t,msB F V 0 s.b⟩:=by (intro X V;simp only [ft,nm,Nat.reduceAdd,Nat.reduceBEq];(try (refine AP.Y ?_;dsimp only));refine AP.IA ?_;(try refine NX ?_);refine AP.nil ?_;first|exact ⟨trivial,rfl⟩|exact ⟨rfl,rfl⟩)) (hy:nyF F 0 s.b=true:=by exact rfl) :
 DW Tryz.prog ops all K acc (⟨some d,op,ty,pos,aft,g⟩ :: l) s:=DW.rd 0 hT hF h hk hy
end
end Go.Proofs.YtifebijohmlnbaaGreat
